import Derived.Test.YtmmlnghanonbjaaSW0
import Derived.Test.YtmmlnghanonbjaaGkFlib
set_option linter.unusedVariables false
set_option linter.unusedSimpArgs false
set_option linter.unusedVariables false
set_option maxRecDepth 4000
namespace Go.Proofs
open Go Go.RowKit Go.Gk
theorem c_internal_stringslite_IndexByte (w0 : World) (a0 : List UInt8) (a1 : UInt8)   (r : Int)
  (h : F.internal_stringslite_IndexByte a0 a1 = some r) : Calls Try.prog 31 #[vS a0, v8 a1] w0 (Ret fun v w => v = vI r ∧ St [] w0 w []) := by
 refine calls_at 8 Try.func31 rfl rfl rfl ?_
 have hS := St.start w0
 refine wpC_le [(0, vS a0), (1, v8 a1)] ⟨rfl, rfl, trivial⟩ ?_
 unfold F.internal_stringslite_IndexByte at h
 refine wpC_seq (wpC_region (wpR_v (OpV_assign rfl) rfl (wpR_nil (QE_then_n (wpC_seq (wpC_region ?_))))))
 refine wpR_v (OpV_move rfl) rfl (wpR_v (OpV_move rfl) rfl (wpR_v (OpV_ext x33 rfl (ext_ixByteS a0 a1 _)) rfl ?_))
 refine wpR_v (OpV_assign rfl) rfl (wpR_nil (QE_then_n (wpC_ret ?_)))
 cases h
 exact QE_ret1 rfl rfl ⟨rfl, hS⟩
theorem c_strings_IndexByte (w0 : World) (a0 : List UInt8) (a1 : UInt8)   (r : Int)
  (h : F.strings_IndexByte a0 a1 = some r) : Calls Try.prog 25 #[vS a0, v8 a1] w0 (Ret fun v w => v = vI r ∧ St [] w0 w []) := by
 refine calls_at 8 Try.func25 rfl rfl rfl ?_
 have hS := St.start w0
 refine wpC_le [(0, vS a0), (1, v8 a1)] ⟨rfl, rfl, trivial⟩ ?_
 unfold F.strings_IndexByte at h
 refine wpC_seq (wpC_region (wpR_v (OpV_assign rfl) rfl (wpR_nil (QE_then_n (wpC_seq (wpC_region ?_))))))
 refine wpR_v (OpV_move rfl) rfl (wpR_v (OpV_move rfl) rfl ?_)
 obtain ⟨x_1, hx_1, h⟩ := obind_some h
 refine wpR_call (by kernel_rfl) rfl (c_internal_stringslite_IndexByte _ a0 a1    _ hx_1) rfl ?_
 rintro _ w ⟨rfl, hS1⟩
 have hS := hS.call hS1
 simp only [List.cons_append, List.nil_append] at hS
 refine wpR_v (OpV_assign rfl) rfl (wpR_nil (QE_then_n (wpC_ret ?_)))
 cases h
 exact QE_ret1 rfl rfl ⟨rfl, hS⟩
end Go.Proofs
