import Derived.Test.YtldhmmipbogabaaGreatDoorTW0
import Derived.Test.YtldhmmipbogabaaGreatDoorGkFlib
set_option linter.unusedVariables false
set_option linter.unusedSimpArgs false
set_option linter.unusedVariables false
set_option maxRecDepth 4000
namespace Go.Proofs
open Go Go.RowKit Go.Gk
theorem c_internal_stringslite_IndexByte (w0 : World) (a0 : List UInt8) (a1 : UInt8)   (r : Int)
  (h : F.internal_stringslite_IndexByte a0 a1 = some r) : Calls Tryz.prog 202 #[vS a0, v8 a1] w0 (Ret fun v w => v = vI r ∧ St [] w0 w []) := by
 refine calls_at 8 Tryz.func202 rfl rfl rfl ?_
 have hS := St.start w0
 refine wpC_le [(0, vS a0), (1, v8 a1)] ⟨rfl, rfl, trivial⟩ ?_
 unfold F.internal_stringslite_IndexByte at h
 refine wpC_seq (wpC_region (wpR_run 1 rfl ?_))
 refine wpR_nil (QE_then_n (wpC_seq (wpC_region (wpR_run 2 rfl ?_))))
 refine wpR_v (OpV_ext x262 rfl (ext_ixByteS a0 a1 _)) rfl ?_
 refine wpR_run 1 rfl ?_
 refine wpR_nil (QE_then_n (wpC_ret ?_))
 cases h
 exact QE_ret1 rfl rfl ⟨rfl, hS⟩
theorem c_internal_stringslite_Index (w0 : World) (a0 : List UInt8)   (r : Int)
  (h : F.internal_stringslite_Index a0 = some r) : Calls Tryz.prog 204 #[vS a0, vS [46]] w0 (Ret fun v w => v = vI r ∧ St [] w0 w []) := by
 refine calls_at 143 Tryz.func204 rfl rfl rfl ?_
 have hS := St.start w0
 refine wpC_le [(0, vS a0), (1, vS [46])] ⟨rfl, rfl, trivial⟩ ?_
 unfold F.internal_stringslite_Index at h
 refine wpC_seq (wpC_region (wpR_run 1 rfl ?_))
 refine wpR_nil (QE_then_n (wpC_seq (wpC_region (wpR_run 1 rfl ?_))))
 refine wpR_v (OpV_lenS Tryz.underlying9 rfl) rfl ?_
 refine wpR_run 1 rfl ?_
 refine wpR_nil (QE_then_n (wpC_seq (wpC_block ?_)))
 refine wpC_seq (wpC_region (wpR_run 1 rfl ?_))
 refine wpR_v (OpV_bin rfl rfl (b_ieql _ 1 0)) rfl ?_
 refine wpR_run 3 rfl ?_
 refine wpR_gv (t := 19) rfl rfl (OpV_bin rfl rfl (b_seql _ [46] a0)) rfl ?_
 refine wpR_run 2 rfl ?_
 refine wpR_nil (QE_then_n ?_)
 refine wpC_cond rfl (fun hb_3 => ?_) (fun hb_3 => ?_)
 ·have h := if_t h hb_3
  refine wpC_seq (wpC_region (wpR_run 1 rfl ?_))
  refine wpR_nil (QE_then_n (wpC_ret (QE_blk_r ?_)))
  refine QE_then_r ?_
  cases h
  exact QE_ret1 rfl rfl ⟨rfl, hS⟩
 have h := if_f h hb_3
 refine wpC_seq (wpC_region (wpR_run 1 rfl ?_))
 refine wpR_v (OpV_bin rfl rfl (b_ieql _ 1 1)) rfl ?_
 refine wpR_run 1 rfl ?_
 refine wpR_nil (QE_then_n (wpC_condT rfl ?_))
 refine wpC_seq (wpC_region (wpR_run 2 rfl ?_))
 obtain ⟨x_1, hx_1, h⟩ := obind_some h
 refine wpR_v (G_ixS Tryz.underlying9 rfl rfl hx_1) rfl ?_
 obtain ⟨x_2, hx_2, h⟩ := obind_some h
 refine wpR_call (by kernel_rfl) rfl (c_internal_stringslite_IndexByte _ a0 x_1    _ hx_2) rfl ?_
 rintro _ w ⟨rfl, hS1⟩
 have hS := hS.call hS1
 simp only [List.cons_append, List.nil_append] at hS
 refine wpR_run 1 rfl ?_
 refine wpR_nil (QE_then_n (wpC_ret (QE_blk_r ?_)))
 refine QE_then_r ?_
 cases h
 exact QE_ret1 rfl rfl ⟨rfl, hS⟩
theorem c_strings_Count (w0 : World) (a0 : List UInt8)   (r : Int)
  (h : F.strings_Count a0 = some r) : Calls Tryz.prog 43 #[vS a0, vS [46]] w0 (Ret fun v w => v = vI r ∧ St [] w0 w []) := by
 refine calls_at 34 Tryz.func43 rfl rfl rfl ?_
 have hS := St.start w0
 refine wpC_le [(0, vS a0), (1, vS [46])] ⟨rfl, rfl, trivial⟩ ?_
 unfold F.strings_Count at h
 refine wpC_seq (wpC_region (wpR_run 1 rfl ?_))
 refine wpR_nil (QE_then_n (wpC_seq (wpC_seq (wpC_region (wpR_run 1 rfl ?_)))))
 refine wpR_v (OpV_lenS Tryz.underlying9 rfl) rfl ?_
 refine wpR_v (OpV_bin rfl rfl (b_ieql _ 1 0)) rfl ?_
 refine wpR_nil (QE_then_n (wpC_condF rfl ?_))
 refine wpC_skip (QE_then_n (wpC_seq (wpC_seq (wpC_region (wpR_run 1 rfl ?_)))))
 refine wpR_v (OpV_lenS Tryz.underlying9 rfl) rfl ?_
 refine wpR_v (OpV_bin rfl rfl (b_ieql _ 1 1)) rfl ?_
 refine wpR_nil (QE_then_n (wpC_condT rfl ?_))
 refine wpC_seq (wpC_region (wpR_run 2 rfl ?_))
 obtain ⟨x_1, hx_1, h⟩ := obind_some h
 refine wpR_v (G_ixS Tryz.underlying9 rfl rfl hx_1) rfl ?_
 refine wpR_v (OpV_ext x117 rfl (ext_ctByteS a0 x_1 _)) rfl ?_
 refine wpR_run 1 rfl ?_
 refine wpR_nil (QE_then_n (wpC_ret (QE_then_r ?_)))
 cases h
 exact QE_ret1 rfl rfl ⟨rfl, hS⟩
theorem c_internal_stringslite_Cut (w0 : World) (a0 : List UInt8)   (r : List UInt8 × List UInt8 × Bool)
  (h : F.internal_stringslite_Cut a0 = some r) : Calls Tryz.prog 119 #[vS a0, vS [46]] w0 (Ret fun v w => v = .tuple #[vS r.1, vS r.2.1, vB r.2.2] ∧ St [] w0 w []) := by
 refine calls_at 23 Tryz.func119 rfl rfl rfl ?_
 have hS := St.start w0
 refine wpC_le [(0, vS a0), (1, vS [46])] ⟨rfl, rfl, trivial⟩ ?_
 unfold F.internal_stringslite_Cut at h
 refine wpC_seq (wpC_region (wpR_run 3 rfl ?_))
 refine wpR_nil (QE_then_n (wpC_seq (wpC_seq (wpC_region (wpR_run 2 rfl ?_)))))
 obtain ⟨x_1, hx_1, h⟩ := obind_some h
 refine wpR_call (by kernel_rfl) rfl (c_internal_stringslite_Index _ a0    _ hx_1) rfl ?_
 rintro _ w ⟨rfl, hS1⟩
 have hS := hS.call hS1
 simp only [List.cons_append, List.nil_append] at hS
 refine wpR_run 1 rfl ?_
 refine wpR_nil (QE_then_n (wpC_seq (wpC_region (wpR_run 2 rfl ?_))))
 refine wpR_nil (QE_then_n ?_)
 refine wpC_cond rfl (fun hb_4 => ?_) (fun hb_4 => ?_)
 ·have h := if_t h hb_4
  refine wpC_seq ?_
  refine wpC_regionT (fun w' => St [] w0 w' []) (fun _ => true) hmix (fun _ _ _ hf => hf.2) (fun _ _ hf => hf) (by kernel_rfl) ?_
  have hS := hS.drew
  show lxE _ _ _ _ _ _ _ [0, 1, 2, 3, 4, 5, 6, 7, 8, 9, 10, 11] _ _
  refine lxE_v hS rfl rfl (fun w hF => OpV_move rfl) rfl ?_
  refine lxE_v hS rfl rfl (fun w hF => OpV_move rfl) rfl ?_
  obtain ⟨x_2, hx_2, h⟩ := obind_some h
  refine lxE_v hS rfl rfl (fun w hF => G_slSh Tryz.underlying9 rfl rfl hx_2) rfl ?_
  refine lxE_v hS rfl rfl (fun w hF => OpV_move rfl) rfl ?_
  refine lxE_v hS rfl rfl (fun w hF => OpV_move rfl) rfl ?_
  refine lxE_v hS rfl rfl (fun w hF => OpV_move rfl) rfl ?_
  refine lxE_v hS rfl rfl (fun w hF => OpV_lenS Tryz.underlying9 rfl) rfl ?_
  refine lxE_v hS rfl rfl (fun w hF => OpV_bin rfl rfl (b_iadd _ x_1 1)) rfl ?_
  obtain ⟨x_3, hx_3, h⟩ := obind_some h
  refine lxE_v hS rfl rfl (fun w hF => G_slSl Tryz.underlying9 rfl rfl hx_3) rfl ?_
  refine lxE_v hS rfl rfl (fun w hF => OpV_assign rfl) rfl ?_
  refine lxE_v hS rfl rfl (fun w hF => OpV_assign rfl) rfl ?_
  refine lxE_v hS rfl rfl (fun w hF => OpV_assign rfl) rfl ?_
  refine lxE_nil hS ?_
  refine QE_then_n (wpC_ret (QE_then_r ?_))
  cases h
  exact QE_ret3 rfl rfl rfl rfl ⟨rfl, hS⟩
 have h := if_f h hb_4
 refine wpC_skip (QE_then_n (wpC_seq (wpC_region (wpR_run 4 rfl ?_))))
 refine wpR_nil (QE_then_n (wpC_ret ?_))
 cases h
 exact QE_ret3 rfl rfl rfl rfl ⟨rfl, hS⟩
theorem c_strings_Cut (w0 : World) (a0 : List UInt8)   (r : List UInt8 × List UInt8 × Bool)
  (h : F.strings_Cut a0 = some r) : Calls Tryz.prog 44 #[vS a0, vS [46]] w0 (Ret fun v w => v = .tuple #[vS r.1, vS r.2.1, vB r.2.2] ∧ St [] w0 w []) := by
 refine calls_at 13 Tryz.func44 rfl rfl rfl ?_
 have hS := St.start w0
 refine wpC_le [(0, vS a0), (1, vS [46])] ⟨rfl, rfl, trivial⟩ ?_
 unfold F.strings_Cut at h
 refine wpC_seq (wpC_region (wpR_run 3 rfl ?_))
 refine wpR_nil (QE_then_n (wpC_seq (wpC_region (wpR_run 2 rfl ?_))))
 obtain ⟨x_1, hx_1, h⟩ := obind_some h
 refine wpR_call (by kernel_rfl) rfl (c_internal_stringslite_Cut _ a0    _ hx_1) rfl ?_
 rintro _ w ⟨rfl, hS1⟩
 have hS := hS.call hS1
 simp only [List.cons_append, List.nil_append] at hS
 refine wpR_run 6 rfl ?_
 refine wpR_nil (QE_then_n (wpC_ret ?_))
 cases h
 exact QE_ret3 rfl rfl rfl rfl ⟨rfl, hS⟩
theorem c_strings_IndexByte (w0 : World) (a0 : List UInt8) (a1 : UInt8)   (r : Int)
  (h : F.strings_IndexByte a0 a1 = some r) : Calls Tryz.prog 113 #[vS a0, v8 a1] w0 (Ret fun v w => v = vI r ∧ St [] w0 w []) := by
 refine calls_at 8 Tryz.func113 rfl rfl rfl ?_
 have hS := St.start w0
 refine wpC_le [(0, vS a0), (1, v8 a1)] ⟨rfl, rfl, trivial⟩ ?_
 unfold F.strings_IndexByte at h
 refine wpC_seq (wpC_region (wpR_run 1 rfl ?_))
 refine wpR_nil (QE_then_n (wpC_seq (wpC_region (wpR_run 2 rfl ?_))))
 obtain ⟨x_1, hx_1, h⟩ := obind_some h
 refine wpR_call (by kernel_rfl) rfl (c_internal_stringslite_IndexByte _ a0 a1    _ hx_1) rfl ?_
 rintro _ w ⟨rfl, hS1⟩
 have hS := hS.call hS1
 simp only [List.cons_append, List.nil_append] at hS
 refine wpR_run 1 rfl ?_
 refine wpR_nil (QE_then_n (wpC_ret ?_))
 cases h
 exact QE_ret1 rfl rfl ⟨rfl, hS⟩
theorem c_math_bits_RotateLeft32 (w0 : World) (a0 : UInt32) (a1 : Int)   (r : UInt32)
  (h : F.math_bits_RotateLeft32 a0 a1 = some r) : Calls Tryz.prog 288 #[v32 a0, vI a1] w0 (Ret fun v w => v = v32 r ∧ St [] w0 w []) := by
 refine calls_at 17 Tryz.func288 rfl rfl rfl ?_
 have hS := St.start w0
 refine wpC_le [(0, v32 a0), (1, vI a1)] ⟨rfl, rfl, trivial⟩ ?_
 unfold F.math_bits_RotateLeft32 at h
 refine wpC_seq (wpC_region (wpR_run 1 rfl ?_))
 refine wpR_nil (QE_then_n (wpC_seq (wpC_region (wpR_run 1 rfl ?_))))
 refine wpR_v (OpV_conv rfl (cv_i_64 Tryz.underlying3 Tryz.underlying86 a1)) rfl ?_
 refine wpR_v (OpV_bin rfl rfl (b_and64 _ (UInt64.ofInt a1) 31)) rfl ?_
 refine wpR_run 1 rfl ?_
 refine wpR_nil (QE_then_n (wpC_seq (wpC_region (wpR_run 2 rfl ?_))))
 refine wpR_v (OpV_bin rfl rfl (b_shl32_64 _ a0 ((UInt64.ofInt a1) &&& 31))) rfl ?_
 refine wpR_run 2 rfl ?_
 refine wpR_v (OpV_bin rfl rfl (b_sub64 _ 32 ((UInt64.ofInt a1) &&& 31))) rfl ?_
 refine wpR_v (OpV_bin rfl rfl (b_shr32_64 _ a0 (32 - ((UInt64.ofInt a1) &&& 31)))) rfl ?_
 refine wpR_v (OpV_bin rfl rfl (b_or32 _ (shl32 a0 (((UInt64.ofInt a1) &&& 31).toNat)) (shr32 a0 ((32 - ((UInt64.ofInt a1) &&& 31)).toNat)))) rfl ?_
 refine wpR_run 1 rfl ?_
 refine wpR_nil (QE_then_n (wpC_ret ?_))
 cases h
 exact QE_ret1 rfl rfl ⟨rfl, hS⟩
theorem c_math_bits_RotateLeft64 (w0 : World) (a0 : UInt64) (a1 : Int)   (r : UInt64)
  (h : F.math_bits_RotateLeft64 a0 a1 = some r) : Calls Tryz.prog 289 #[v64 a0, vI a1] w0 (Ret fun v w => v = v64 r ∧ St [] w0 w []) := by
 refine calls_at 17 Tryz.func289 rfl rfl rfl ?_
 have hS := St.start w0
 refine wpC_le [(0, v64 a0), (1, vI a1)] ⟨rfl, rfl, trivial⟩ ?_
 unfold F.math_bits_RotateLeft64 at h
 refine wpC_seq (wpC_region (wpR_run 1 rfl ?_))
 refine wpR_nil (QE_then_n (wpC_seq (wpC_region (wpR_run 1 rfl ?_))))
 refine wpR_v (OpV_conv rfl (cv_i_64 Tryz.underlying3 Tryz.underlying86 a1)) rfl ?_
 refine wpR_v (OpV_bin rfl rfl (b_and64 _ (UInt64.ofInt a1) 63)) rfl ?_
 refine wpR_run 1 rfl ?_
 refine wpR_nil (QE_then_n (wpC_seq (wpC_region (wpR_run 2 rfl ?_))))
 refine wpR_v (OpV_bin rfl rfl (b_shl64_64 _ a0 ((UInt64.ofInt a1) &&& 63))) rfl ?_
 refine wpR_run 2 rfl ?_
 refine wpR_v (OpV_bin rfl rfl (b_sub64 _ 64 ((UInt64.ofInt a1) &&& 63))) rfl ?_
 refine wpR_v (OpV_bin rfl rfl (b_shr64_64 _ a0 (64 - ((UInt64.ofInt a1) &&& 63)))) rfl ?_
 refine wpR_v (OpV_bin rfl rfl (b_or64 _ (shl64 a0 (((UInt64.ofInt a1) &&& 63).toNat)) (shr64 a0 ((64 - ((UInt64.ofInt a1) &&& 63)).toNat)))) rfl ?_
 refine wpR_run 1 rfl ?_
 refine wpR_nil (QE_then_n (wpC_ret ?_))
 cases h
 exact QE_ret1 rfl rfl ⟨rfl, hS⟩
end Go.Proofs
