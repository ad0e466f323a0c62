import Derived.Test.YtmpcjpcipmdgeaaDoorTW0
import Derived.Test.YtmpcjpcipmdgeaaDoorGkFlib
set_option linter.unusedVariables false
set_option linter.unusedSimpArgs false
set_option linter.unusedVariables false
set_option maxRecDepth 4000
namespace Go.Proofs
open Go Go.RowKit Go.Gk
theorem c_math_bits_RotateLeft32 (w0 : World) (a0 : UInt32) (a1 : Int)   (r : UInt32)
  (h : F.math_bits_RotateLeft32 a0 a1 = some r) : Calls Tryd.prog 34 #[v32 a0, vI a1] w0 (Ret fun v w => v = v32 r ∧ St [] w0 w []) := by
 refine calls_at 17 Tryd.func34 rfl rfl rfl ?_
 have hS := St.start w0
 refine wpC_le [(0, v32 a0), (1, vI a1)] ⟨rfl, rfl, trivial⟩ ?_
 unfold F.math_bits_RotateLeft32 at h
 refine wpC_seq (wpC_region (wpR_run 1 rfl ?_))
 refine wpR_nil (QE_then_n (wpC_seq (wpC_region (wpR_run 1 rfl ?_))))
 refine wpR_v (OpV_conv rfl (cv_i_64 Tryd.underlying3 Tryd.underlying60 a1)) rfl ?_
 refine wpR_v (OpV_bin rfl rfl (b_and64 _ (UInt64.ofInt a1) 31)) rfl ?_
 refine wpR_run 1 rfl ?_
 refine wpR_nil (QE_then_n (wpC_seq (wpC_region (wpR_run 2 rfl ?_))))
 refine wpR_v (OpV_bin rfl rfl (b_shl32_64 _ a0 ((UInt64.ofInt a1) &&& 31))) rfl ?_
 refine wpR_run 2 rfl ?_
 refine wpR_v (OpV_bin rfl rfl (b_sub64 _ 32 ((UInt64.ofInt a1) &&& 31))) rfl ?_
 refine wpR_v (OpV_bin rfl rfl (b_shr32_64 _ a0 (32 - ((UInt64.ofInt a1) &&& 31)))) rfl ?_
 refine wpR_v (OpV_bin rfl rfl (b_or32 _ (shl32 a0 (((UInt64.ofInt a1) &&& 31).toNat)) (shr32 a0 ((32 - ((UInt64.ofInt a1) &&& 31)).toNat)))) rfl ?_
 refine wpR_run 1 rfl ?_
 refine wpR_nil (QE_then_n (wpC_ret ?_))
 cases h
 exact QE_ret1 rfl rfl ⟨rfl, hS⟩
theorem c_math_bits_RotateLeft64 (w0 : World) (a0 : UInt64) (a1 : Int)   (r : UInt64)
  (h : F.math_bits_RotateLeft64 a0 a1 = some r) : Calls Tryd.prog 35 #[v64 a0, vI a1] w0 (Ret fun v w => v = v64 r ∧ St [] w0 w []) := by
 refine calls_at 17 Tryd.func35 rfl rfl rfl ?_
 have hS := St.start w0
 refine wpC_le [(0, v64 a0), (1, vI a1)] ⟨rfl, rfl, trivial⟩ ?_
 unfold F.math_bits_RotateLeft64 at h
 refine wpC_seq (wpC_region (wpR_run 1 rfl ?_))
 refine wpR_nil (QE_then_n (wpC_seq (wpC_region (wpR_run 1 rfl ?_))))
 refine wpR_v (OpV_conv rfl (cv_i_64 Tryd.underlying3 Tryd.underlying60 a1)) rfl ?_
 refine wpR_v (OpV_bin rfl rfl (b_and64 _ (UInt64.ofInt a1) 63)) rfl ?_
 refine wpR_run 1 rfl ?_
 refine wpR_nil (QE_then_n (wpC_seq (wpC_region (wpR_run 2 rfl ?_))))
 refine wpR_v (OpV_bin rfl rfl (b_shl64_64 _ a0 ((UInt64.ofInt a1) &&& 63))) rfl ?_
 refine wpR_run 2 rfl ?_
 refine wpR_v (OpV_bin rfl rfl (b_sub64 _ 64 ((UInt64.ofInt a1) &&& 63))) rfl ?_
 refine wpR_v (OpV_bin rfl rfl (b_shr64_64 _ a0 (64 - ((UInt64.ofInt a1) &&& 63)))) rfl ?_
 refine wpR_v (OpV_bin rfl rfl (b_or64 _ (shl64 a0 (((UInt64.ofInt a1) &&& 63).toNat)) (shr64 a0 ((64 - ((UInt64.ofInt a1) &&& 63)).toNat)))) rfl ?_
 refine wpR_run 1 rfl ?_
 refine wpR_nil (QE_then_n (wpC_ret ?_))
 cases h
 exact QE_ret1 rfl rfl ⟨rfl, hS⟩
end Go.Proofs
