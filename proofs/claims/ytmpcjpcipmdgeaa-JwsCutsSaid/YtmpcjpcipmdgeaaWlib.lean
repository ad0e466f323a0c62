/- Walks: each Go function of package lib computes its plain function. Written by a program of ours. -/
import Derived.Test.YtmpcjpcipmdgeaaW0
import Derived.Test.YtmpcjpcipmdgeaaGkFlib
set_option linter.unusedVariables false
set_option maxRecDepth 4000
namespace Go.Proofs
open Go Go.RowKit Go.Gk

theorem c_internal_stringslite_IndexByte (w0 : World) (a0 : List UInt8) (a1 : UInt8)   (r : Int)
    (h : F.internal_stringslite_IndexByte a0 a1 = some r) : Calls Try.prog 30 #[vS a0, v8 a1] w0 (Ret fun v w => v = vI r ∧ St [] w0 w []) := by
  refine calls_at 8 Try.func30 rfl rfl rfl ?_
  have hS := St.start w0
  refine wpC_le [(0, vS a0), (1, v8 a1)] ⟨rfl, rfl, trivial⟩ ?_
  unfold F.internal_stringslite_IndexByte at h
  refine wpC_seq ?_
  refine wpC_region ?_
  refine wpR_v (OpV_assign rfl) rfl ?_
  refine wpR_nil ?_
  refine QE_then_n ?_
  refine wpC_seq ?_
  refine wpC_region ?_
  refine wpR_v (OpV_move rfl) rfl ?_
  refine wpR_v (OpV_move rfl) rfl ?_
  refine wpR_v (OpV_ext x37 rfl (ext_ixByteS a0 a1 _)) rfl ?_
  refine wpR_v (OpV_assign rfl) rfl ?_
  refine wpR_nil ?_
  refine QE_then_n ?_
  refine wpC_ret ?_
  cases h
  exact QE_ret1 rfl rfl ⟨rfl, hS⟩

theorem c_internal_stringslite_Index (w0 : World) (a0 : List UInt8)   (r : Int)
    (h : F.internal_stringslite_Index a0 = some r) : Calls Try.prog 29 #[vS a0, vS [46]] w0 (Ret fun v w => v = vI r ∧ St [] w0 w []) := by
  refine calls_at 143 Try.func29 rfl rfl rfl ?_
  have hS := St.start w0
  refine wpC_le [(0, vS a0), (1, vS [46])] ⟨rfl, rfl, trivial⟩ ?_
  unfold F.internal_stringslite_Index at h
  refine wpC_seq ?_
  refine wpC_region ?_
  refine wpR_v (OpV_assign rfl) rfl ?_
  refine wpR_nil ?_
  refine QE_then_n ?_
  refine wpC_seq ?_
  refine wpC_region ?_
  refine wpR_v (OpV_move rfl) rfl ?_
  refine wpR_v (OpV_lenS Try.underlying9 rfl) rfl ?_
  refine wpR_v (OpV_assign rfl) rfl ?_
  refine wpR_nil ?_
  refine QE_then_n ?_
  refine wpC_seq ?_
  refine wpC_block ?_
  refine wpC_seq ?_
  refine wpC_region ?_
  refine wpR_v (OpV_move rfl) rfl ?_
  refine wpR_v (OpV_bin rfl rfl (b_ieql _ 1 0)) rfl ?_
  refine wpR_v (OpV_move rfl) rfl ?_
  refine wpR_gv (t := 19) rfl rfl (OpV_move rfl) rfl ?_
  refine wpR_gv (t := 19) rfl rfl (OpV_move rfl) rfl ?_
  refine wpR_gv (t := 19) rfl rfl (OpV_bin rfl rfl (b_seql _ [46] a0)) rfl ?_
  refine wpR_v (OpV_pickF rfl rfl) rfl ?_
  refine wpR_v (OpV_assign rfl) rfl ?_
  refine wpR_nil ?_
  refine QE_then_n ?_
  refine wpC_cond rfl (fun hb_3 => ?_) (fun hb_3 => ?_)
  · have h := if_t h hb_3
    refine wpC_seq ?_
    refine wpC_region ?_
    refine wpR_v (OpV_assign rfl) rfl ?_
    refine wpR_nil ?_
    refine QE_then_n ?_
    refine wpC_ret ?_
    refine QE_blk_r ?_
    refine QE_then_r ?_
    cases h
    exact QE_ret1 rfl rfl ⟨rfl, hS⟩
  · have h := if_f h hb_3
    refine wpC_seq ?_
    refine wpC_region ?_
    refine wpR_v (OpV_move rfl) rfl ?_
    refine wpR_v (OpV_bin rfl rfl (b_ieql _ 1 1)) rfl ?_
    refine wpR_v (OpV_assign rfl) rfl ?_
    refine wpR_nil ?_
    refine QE_then_n ?_
    refine wpC_condT rfl ?_
    refine wpC_seq ?_
    refine wpC_region ?_
    refine wpR_v (OpV_move rfl) rfl ?_
    refine wpR_v (OpV_move rfl) rfl ?_
    obtain ⟨x_1, hx_1, h⟩ := obind_some h
    refine wpR_v (G_ixS Try.underlying9 rfl rfl hx_1) rfl ?_
    obtain ⟨x_2, hx_2, h⟩ := obind_some h
    refine wpR_call (by kernel_rfl) rfl (c_internal_stringslite_IndexByte _ a0 x_1   _ hx_2) rfl ?_
    rintro _ w ⟨rfl, hS1⟩
    have hS := hS.call hS1
    simp only [List.nil_append] at hS
    refine wpR_v (OpV_assign rfl) rfl ?_
    refine wpR_nil ?_
    refine QE_then_n ?_
    refine wpC_ret ?_
    refine QE_blk_r ?_
    refine QE_then_r ?_
    cases h
    exact QE_ret1 rfl rfl ⟨rfl, hS⟩

theorem c_strings_Count (w0 : World) (a0 : List UInt8)   (r : Int)
    (h : F.strings_Count a0 = some r) : Calls Try.prog 13 #[vS a0, vS [46]] w0 (Ret fun v w => v = vI r ∧ St [] w0 w []) := by
  refine calls_at 34 Try.func13 rfl rfl rfl ?_
  have hS := St.start w0
  refine wpC_le [(0, vS a0), (1, vS [46])] ⟨rfl, rfl, trivial⟩ ?_
  unfold F.strings_Count at h
  refine wpC_seq ?_
  refine wpC_region ?_
  refine wpR_v (OpV_assign rfl) rfl ?_
  refine wpR_nil ?_
  refine QE_then_n ?_
  refine wpC_seq ?_
  refine wpC_seq ?_
  refine wpC_region ?_
  refine wpR_v (OpV_move rfl) rfl ?_
  refine wpR_v (OpV_lenS Try.underlying9 rfl) rfl ?_
  refine wpR_v (OpV_bin rfl rfl (b_ieql _ 1 0)) rfl ?_
  refine wpR_nil ?_
  refine QE_then_n ?_
  refine wpC_condF rfl ?_
  refine wpC_skip ?_
  refine QE_then_n ?_
  refine wpC_seq ?_
  refine wpC_seq ?_
  refine wpC_region ?_
  refine wpR_v (OpV_move rfl) rfl ?_
  refine wpR_v (OpV_lenS Try.underlying9 rfl) rfl ?_
  refine wpR_v (OpV_bin rfl rfl (b_ieql _ 1 1)) rfl ?_
  refine wpR_nil ?_
  refine QE_then_n ?_
  refine wpC_condT rfl ?_
  refine wpC_seq ?_
  refine wpC_region ?_
  refine wpR_v (OpV_move rfl) rfl ?_
  refine wpR_v (OpV_move rfl) rfl ?_
  obtain ⟨x_1, hx_1, h⟩ := obind_some h
  refine wpR_v (G_ixS Try.underlying9 rfl rfl hx_1) rfl ?_
  refine wpR_v (OpV_ext x20 rfl (ext_ctByteS a0 x_1 _)) rfl ?_
  refine wpR_v (OpV_assign rfl) rfl ?_
  refine wpR_nil ?_
  refine QE_then_n ?_
  refine wpC_ret ?_
  refine QE_then_r ?_
  cases h
  exact QE_ret1 rfl rfl ⟨rfl, hS⟩

theorem c_internal_stringslite_Cut (w0 : World) (a0 : List UInt8)   (r : List UInt8 × List UInt8 × Bool)
    (h : F.internal_stringslite_Cut a0 = some r) : Calls Try.prog 22 #[vS a0, vS [46]] w0 (Ret fun v w => v = .tuple #[vS r.1, vS r.2.1, vB r.2.2] ∧ St [] w0 w []) := by
  refine calls_at 23 Try.func22 rfl rfl rfl ?_
  have hS := St.start w0
  refine wpC_le [(0, vS a0), (1, vS [46])] ⟨rfl, rfl, trivial⟩ ?_
  unfold F.internal_stringslite_Cut at h
  refine wpC_seq ?_
  refine wpC_region ?_
  refine wpR_v (OpV_assign rfl) rfl ?_
  refine wpR_v (OpV_assign rfl) rfl ?_
  refine wpR_v (OpV_assign rfl) rfl ?_
  refine wpR_nil ?_
  refine QE_then_n ?_
  refine wpC_seq ?_
  refine wpC_seq ?_
  refine wpC_region ?_
  refine wpR_v (OpV_move rfl) rfl ?_
  refine wpR_v (OpV_move rfl) rfl ?_
  obtain ⟨x_1, hx_1, h⟩ := obind_some h
  refine wpR_call (by kernel_rfl) rfl (c_internal_stringslite_Index _ a0   _ hx_1) rfl ?_
  rintro _ w ⟨rfl, hS1⟩
  have hS := hS.call hS1
  simp only [List.nil_append] at hS
  refine wpR_v (OpV_assign rfl) rfl ?_
  refine wpR_nil ?_
  refine QE_then_n ?_
  refine wpC_seq ?_
  refine wpC_region ?_
  refine wpR_v (OpV_move rfl) rfl ?_
  refine wpR_v (OpV_bin rfl rfl (b_igeq _ x_1 0)) rfl ?_
  refine wpR_nil ?_
  refine QE_then_n ?_
  refine wpC_cond rfl (fun hb_4 => ?_) (fun hb_4 => ?_)
  · have h := if_t h hb_4
    refine wpC_seq ?_
    refine wpC_regionT (fun w' => St [] w0 w' []) (fun _ => true) hmix (fun _ _ _ hf => hf.2) (fun _ _ hf => hf) (by kernel_rfl) ?_
    have hS := hS.drew
    show lxE _ _ _ _ _ _ [0, 1, 2, 3, 4, 5, 6, 7, 8, 9, 10, 11] _ _
    refine lxE_v hS rfl rfl (fun w hS => OpV_move rfl) rfl ?_
    refine lxE_v hS rfl rfl (fun w hS => OpV_move rfl) rfl ?_
    obtain ⟨x_2, hx_2, h⟩ := obind_some h
    refine lxE_v hS rfl rfl (fun w hS => G_slSh Try.underlying9 rfl rfl hx_2) rfl ?_
    refine lxE_v hS rfl rfl (fun w hS => OpV_move rfl) rfl ?_
    refine lxE_v hS rfl rfl (fun w hS => OpV_move rfl) rfl ?_
    refine lxE_v hS rfl rfl (fun w hS => OpV_move rfl) rfl ?_
    refine lxE_v hS rfl rfl (fun w hS => OpV_lenS Try.underlying9 rfl) rfl ?_
    refine lxE_v hS rfl rfl (fun w hS => OpV_bin rfl rfl (b_iadd _ x_1 1)) rfl ?_
    obtain ⟨x_3, hx_3, h⟩ := obind_some h
    refine lxE_v hS rfl rfl (fun w hS => G_slSl Try.underlying9 rfl rfl hx_3) rfl ?_
    refine lxE_v hS rfl rfl (fun w hS => OpV_assign rfl) rfl ?_
    refine lxE_v hS rfl rfl (fun w hS => OpV_assign rfl) rfl ?_
    refine lxE_v hS rfl rfl (fun w hS => OpV_assign rfl) rfl ?_
    refine lxE_nil hS ?_
    refine QE_then_n ?_
    refine wpC_ret ?_
    refine QE_then_r ?_
    cases h
    exact QE_ret3 rfl rfl rfl rfl ⟨rfl, hS⟩
  · have h := if_f h hb_4
    refine wpC_skip ?_
    refine QE_then_n ?_
    refine wpC_seq ?_
    refine wpC_region ?_
    refine wpR_v (OpV_move rfl) rfl ?_
    refine wpR_v (OpV_assign rfl) rfl ?_
    refine wpR_v (OpV_assign rfl) rfl ?_
    refine wpR_v (OpV_assign rfl) rfl ?_
    refine wpR_nil ?_
    refine QE_then_n ?_
    refine wpC_ret ?_
    cases h
    exact QE_ret3 rfl rfl rfl rfl ⟨rfl, hS⟩

theorem c_strings_Cut (w0 : World) (a0 : List UInt8)   (r : List UInt8 × List UInt8 × Bool)
    (h : F.strings_Cut a0 = some r) : Calls Try.prog 14 #[vS a0, vS [46]] w0 (Ret fun v w => v = .tuple #[vS r.1, vS r.2.1, vB r.2.2] ∧ St [] w0 w []) := by
  refine calls_at 13 Try.func14 rfl rfl rfl ?_
  have hS := St.start w0
  refine wpC_le [(0, vS a0), (1, vS [46])] ⟨rfl, rfl, trivial⟩ ?_
  unfold F.strings_Cut at h
  refine wpC_seq ?_
  refine wpC_region ?_
  refine wpR_v (OpV_assign rfl) rfl ?_
  refine wpR_v (OpV_assign rfl) rfl ?_
  refine wpR_v (OpV_assign rfl) rfl ?_
  refine wpR_nil ?_
  refine QE_then_n ?_
  refine wpC_seq ?_
  refine wpC_region ?_
  refine wpR_v (OpV_move rfl) rfl ?_
  refine wpR_v (OpV_move rfl) rfl ?_
  obtain ⟨x_1, hx_1, h⟩ := obind_some h
  refine wpR_call (by kernel_rfl) rfl (c_internal_stringslite_Cut _ a0   _ hx_1) rfl ?_
  rintro _ w ⟨rfl, hS1⟩
  have hS := hS.call hS1
  simp only [List.nil_append] at hS
  refine wpR_v (OpV_extract rfl rfl) rfl ?_
  refine wpR_v (OpV_extract rfl rfl) rfl ?_
  refine wpR_v (OpV_extract rfl rfl) rfl ?_
  refine wpR_v (OpV_assign rfl) rfl ?_
  refine wpR_v (OpV_assign rfl) rfl ?_
  refine wpR_v (OpV_assign rfl) rfl ?_
  refine wpR_nil ?_
  refine QE_then_n ?_
  refine wpC_ret ?_
  cases h
  exact QE_ret3 rfl rfl rfl rfl ⟨rfl, hS⟩

theorem c_strings_IndexByte (w0 : World) (a0 : List UInt8) (a1 : UInt8)   (r : Int)
    (h : F.strings_IndexByte a0 a1 = some r) : Calls Try.prog 23 #[vS a0, v8 a1] w0 (Ret fun v w => v = vI r ∧ St [] w0 w []) := by
  refine calls_at 8 Try.func23 rfl rfl rfl ?_
  have hS := St.start w0
  refine wpC_le [(0, vS a0), (1, v8 a1)] ⟨rfl, rfl, trivial⟩ ?_
  unfold F.strings_IndexByte at h
  refine wpC_seq ?_
  refine wpC_region ?_
  refine wpR_v (OpV_assign rfl) rfl ?_
  refine wpR_nil ?_
  refine QE_then_n ?_
  refine wpC_seq ?_
  refine wpC_region ?_
  refine wpR_v (OpV_move rfl) rfl ?_
  refine wpR_v (OpV_move rfl) rfl ?_
  obtain ⟨x_1, hx_1, h⟩ := obind_some h
  refine wpR_call (by kernel_rfl) rfl (c_internal_stringslite_IndexByte _ a0 a1   _ hx_1) rfl ?_
  rintro _ w ⟨rfl, hS1⟩
  have hS := hS.call hS1
  simp only [List.nil_append] at hS
  refine wpR_v (OpV_assign rfl) rfl ?_
  refine wpR_nil ?_
  refine QE_then_n ?_
  refine wpC_ret ?_
  cases h
  exact QE_ret1 rfl rfl ⟨rfl, hS⟩
end Go.Proofs
