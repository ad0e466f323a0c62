import Derived.Test.YtpbgncmffgnohaaGreatTW0
import Derived.Test.YtpbgncmffgnohaaGreatGkFbignum
import Derived.Test.YtpbgncmffgnohaaGreatTWbignumb
set_option linter.unusedVariables false
set_option linter.unusedSimpArgs false
set_option linter.unusedVariables false
set_option maxRecDepth 4000
namespace Go.Proofs
open Go Go.RowKit Go.Gk
theorem c_bignum_Int_Sign (w0 : World) (a0_0 : Bool) (a0_1 : List UInt32) (va0_1 : Value) (ba0 : Nat) (ha0_1 : RP [] w0 e32 va0_1 a0_1) (hBa0 : RB [] w0 ba0 [vB a0_0, va0_1]) (r : Int)
  (h : F.bignum_Int_Sign a0_0 a0_1 = some r) : Calls Tryz.prog 39 #[pB ba0 0] w0 (Ret fun v w => v = vI r ∧ St [] w0 w []) := by
 refine calls_at 13 Tryz.func39 rfl rfl rfl ?_
 have hS := St.start w0
 refine wpC_le [(0, pB ba0 0)] ⟨rfl, trivial⟩ ?_
 unfold F.bignum_Int_Sign at h
 refine wpC_seq (wpC_region (wpR_run 1 rfl ?_))
 refine wpR_nil (QE_then_n (wpC_seq (wpC_seq (wpC_region (wpR_run 1 rfl ?_)))))
 refine wpR_v (OpV_nilB rfl) rfl ?_
 refine wpR_v (OpV_fieldB (k := 1) Tryz.underlying62 rfl rfl nz24 rfl) rfl ?_
 refine wpR_v (OpV_ldB Tryz.underlying24 rfl rfl (hBa0.cell hS.fr 1 rfl)) rfl ?_
 refine wpR_v (OpV_len Tryz.underlying24 rfl (ha0_1.now hS.fr)) rfl ?_
 refine wpR_run 1 rfl ?_
 refine wpR_nil (QE_then_n ?_)
 refine wpC_cond rfl (fun hb_2 => ?_) (fun hb_2 => ?_)
 ·have h := if_t h hb_2
  refine wpC_seq (wpC_region (wpR_run 1 rfl ?_))
  refine wpR_nil (QE_then_n (wpC_ret (QE_then_r ?_)))
  cases h
  exact QE_ret1 rfl rfl ⟨rfl, hS⟩
 have h := if_f h hb_2
 refine wpC_skip (QE_then_n (wpC_seq (wpC_seq (wpC_region (wpR_run 1 rfl ?_)))))
 refine wpR_v (OpV_nilB rfl) rfl ?_
 refine wpR_v (OpV_fieldB (k := 0) Tryz.underlying62 rfl rfl nz4 rfl) rfl ?_
 refine wpR_v (OpV_ldB Tryz.underlying4 rfl rfl (hBa0.cell hS.fr 0 rfl)) rfl ?_
 refine wpR_nil (QE_then_n ?_)
 refine wpC_cond rfl (fun hb_1 => ?_) (fun hb_1 => ?_)
 ·have h := if_t h hb_1
  refine wpC_seq (wpC_region (wpR_run 1 rfl ?_))
  refine wpR_nil (QE_then_n (wpC_ret (QE_then_r ?_)))
  cases h
  exact QE_ret1 rfl rfl ⟨rfl, hS⟩
 have h := if_f h hb_1
 refine wpC_skip (QE_then_n (wpC_seq (wpC_region (wpR_run 1 rfl ?_))))
 refine wpR_nil (QE_then_n (wpC_ret ?_))
 cases h
 exact QE_ret1 rfl rfl ⟨rfl, hS⟩
theorem c_bignum_Int_Bytes (w0 : World) (a0_0 : Bool) (a0_1 : List UInt32) (va0_1 : Value) (ba0 : Nat) (ha0_1 : RP [] w0 e32 va0_1 a0_1) (hBa0 : RB [] w0 ba0 [vB a0_0, va0_1]) (r : List UInt8)
  (h : F.bignum_Int_Bytes a0_0 a0_1 = some r) : Calls Tryz.prog 79 #[pB ba0 0] w0 (Ret fun v w => St [] w0 w [own e8 v r]) := by
 refine calls_at 41 Tryz.func79 rfl rfl rfl ?_
 have hS := St.start w0
 refine wpC_le [(0, pB ba0 0)] ⟨rfl, trivial⟩ ?_
 unfold F.bignum_Int_Bytes at h
 refine wpC_seq (wpC_region (wpR_run 1 rfl ?_))
 refine wpR_nil (QE_then_n (wpC_seq (wpC_region (wpR_run 1 rfl ?_))))
 refine wpR_v (OpV_nilB rfl) rfl ?_
 refine wpR_v (OpV_fieldB (k := 1) Tryz.underlying62 rfl rfl nz24 rfl) rfl ?_
 refine wpR_v (OpV_ldB Tryz.underlying24 rfl rfl (hBa0.cell hS.fr 1 rfl)) rfl ?_
 obtain ⟨x_1, hx_1, h⟩ := obind_some h
 refine wpR_call (by kernel_rfl) rfl (c_bignum_length _ a0_1 va0_1  (ha0_1.now hS.fr).rp _ hx_1) rfl ?_
 rintro _ w ⟨rfl, hS1⟩
 have hS := hS.call hS1
 simp only [List.cons_append, List.nil_append] at hS
 refine wpR_run 1 rfl ?_
 refine wpR_v (OpV_bin rfl rfl (b_iquo _ (wI (x_1 + 7)) 8 (by decide))) rfl ?_
 obtain ⟨x_2, hx_2, h⟩ := olet_some h
 refine wpR_v (OpV_assign (v := vI x_2) (by rw [← hx_2]; rfl)) rfl ?_
 refine wpR_nil (QE_then_n (wpC_seq (wpC_region (wpR_run 1 rfl ?_))))
 obtain ⟨x_3, hx_3, h⟩ := obind_some h
 refine wpR_x (G_make (e := e8) Tryz.underlying23 ti5 rfl rfl rfl hS hx_3) rfl ?_
 rintro v_4 w hS
 refine wpR_run 1 rfl ?_
 refine wpR_nil (QE_then_n (wpC_seq (wpC_seq (wpC_region (wpR_run 1 rfl ?_)))))
 refine wpR_nil (QE_then_n (wpC_block ?_))
 refine wpC_le [(0, pB ba0 0), (3, vI x_2), (4, v_4), (5, vI 0)] ⟨rfl, rfl, rfl, rfl, trivial⟩ ?_
 refine loop_ind (F.bignum_Int_Bytes_L1 a0_1 x_2) (fun (s : Int × List UInt8) L w => L = [(0, pB ba0 0), (3, vI x_2), (4, v_4), (5, vI s.1)] ∧ St [] w0 w [own e8 v_4 s.2]) ?_ (0, x_3) ⟨rfl, hS⟩ h
 rintro k_15 ⟨x_6, x_7⟩ L w q_10 hI ih_9 h hk_8
 try dsimp only at hI
 obtain ⟨rfl, hS⟩ := hI
 unfold F.bignum_Int_Bytes_L1 at h
 refine wpC_seq (wpC_seq (wpC_region (wpR_run 3 rfl ?_)))
 refine wpR_nil (QE_then_n ?_)
 refine wpC_cond rfl (fun hb_14 => ?_) (fun hb_14 => ?_)
 ·have h := if_t h hb_14
  refine wpC_skip (QE_then_n (wpC_seq (wpC_block ?_)))
  refine wpC_region (wpR_run 6 rfl ?_)
  refine wpR_v (OpV_nilB rfl) rfl ?_
  refine wpR_v (OpV_fieldB (k := 1) Tryz.underlying62 rfl rfl nz24 rfl) rfl ?_
  refine wpR_v (OpV_ldB Tryz.underlying24 rfl rfl (hBa0.cell hS.fr 1 rfl)) rfl ?_
  refine wpR_run 1 rfl ?_
  refine wpR_v (OpV_bin rfl rfl (b_iquo _ x_6 4 (by decide))) rfl ?_
  obtain ⟨x_11, hx_11, h⟩ := obind_some h
  refine wpR_v (G_ix Tryz.underlying24 ti52 rfl rfl (ha0_1.now hS.fr) hx_11) rfl ?_
  refine wpR_v (G_load Tryz.underlying52 rfl rfl (ha0_1.now hS.fr) hx_11 rfl) rfl ?_
  refine wpR_run 1 rfl ?_
  refine wpR_v (OpV_conv rfl (cv_i_64 Tryz.underlying3 Tryz.underlying92 x_6)) rfl ?_
  refine wpR_v (OpV_bin rfl rfl (b_rem64 _ (UInt64.ofInt x_6) 4 (by decide))) rfl ?_
  refine wpR_v (OpV_bin rfl rfl (b_mul64 _ 8 ((UInt64.ofInt x_6) % 4))) rfl ?_
  refine wpR_v (OpV_bin rfl rfl (b_shr32_64 _ x_11 (8 * ((UInt64.ofInt x_6) % 4)))) rfl ?_
  refine wpR_v (OpV_conv rfl (cv_32_8 Tryz.underlying52 Tryz.underlying5 (shr32 x_11 ((8 * ((UInt64.ofInt x_6) % 4)).toNat)))) rfl ?_
  obtain ⟨x_12, hx_12, h⟩ := obind_some h
  refine wpR_v (G_ix Tryz.underlying23 ti5 rfl rfl (hS.ro 0 rfl) hx_12) rfl ?_
  refine wpR_y (G_storeE (t := ((shr32 x_11 ((8 * ((UInt64.ofInt x_6) % 4)).toNat)).toUInt8)) ti5 rfl rfl hS (i := 0) rfl hx_12 rfl) ?_
  intro w hS
  obtain ⟨x_13, hx_13, h⟩ := olet_some h
  rw [hx_13] at hS
  refine wpR_nil (QE_blk_n ?_)
  refine QE_then_n (wpC_region (wpR_run 3 rfl ?_))
  refine wpR_nil ?_
  exact QE_rnd (wpN_le _ (by exact ⟨rfl, rfl, rfl, rfl, trivial⟩) (ih_9 (wI (x_6 + 1), x_13) _ _ ⟨rfl, hS⟩ (oinl_some h hk_8)))
 have h := if_f h hb_14
 refine wpC_exit ?_
 refine QE_then_x (QE_then_x ?_)
 have h := oinr_some h hk_8
 refine QE_blk_x ?_
 refine QE_then_n (wpC_seq (wpC_region (wpR_run 2 rfl ?_)))
 refine wpR_nil (QE_then_n (wpC_ret ?_))
 cases h
 exact QE_ret1 rfl rfl (hS.pick [0] (by decide) rfl)
end Go.Proofs
