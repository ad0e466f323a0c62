/- Walks: each Go function of package cbor computes its plain function. Written by a program of ours. -/
import Derived.Test.YtcdneplfgppapaaDoorW0
import Derived.Test.YtcdneplfgppapaaDoorGkFcbor
import Derived.Test.YtcdneplfgppapaaDoorWlib
set_option linter.unusedVariables false
set_option maxRecDepth 4000
namespace Go.Proofs
open Go Go.RowKit Go.Gk

theorem c_cbor_width (w0 : World) (a0 : UInt64)   (r : Int)
    (h : F.cbor_width a0 = some r) : Calls Tryd.prog 59 #[v64 a0] w0 (Ret fun v w => v = vI r ∧ St [] w0 w []) := by
  refine calls_at 15 Tryd.func59 rfl rfl rfl ?_
  have hS := St.start w0
  refine wpC_le [(0, v64 a0)] ⟨rfl, trivial⟩ ?_
  unfold F.cbor_width at h
  refine wpC_seq ?_
  refine wpC_region ?_
  refine wpR_v (OpV_assign rfl) rfl ?_
  refine wpR_nil ?_
  refine QE_then_n ?_
  refine wpC_seq ?_
  refine wpC_block ?_
  refine wpC_seq ?_
  refine wpC_region ?_
  refine wpR_v (OpV_move rfl) rfl ?_
  refine wpR_v (OpV_bin rfl rfl (b_lss64 _ a0 24)) rfl ?_
  refine wpR_v (OpV_assign rfl) rfl ?_
  refine wpR_nil ?_
  refine QE_then_n ?_
  refine wpC_cond rfl (fun hb_4 => ?_) (fun hb_4 => ?_)
  · have h := if_t h hb_4
    refine wpC_seq ?_
    refine wpC_region ?_
    refine wpR_v (OpV_assign rfl) rfl ?_
    refine wpR_nil ?_
    refine QE_then_n ?_
    refine wpC_ret ?_
    refine QE_blk_r ?_
    refine QE_then_r ?_
    cases h
    exact QE_ret1 rfl rfl ⟨rfl, hS⟩
  · have h := if_f h hb_4
    refine wpC_seq ?_
    refine wpC_region ?_
    refine wpR_v (OpV_move rfl) rfl ?_
    refine wpR_v (OpV_bin rfl rfl (b_lss64 _ a0 256)) rfl ?_
    refine wpR_v (OpV_assign rfl) rfl ?_
    refine wpR_nil ?_
    refine QE_then_n ?_
    refine wpC_cond rfl (fun hb_3 => ?_) (fun hb_3 => ?_)
    · have h := if_t h hb_3
      refine wpC_seq ?_
      refine wpC_region ?_
      refine wpR_v (OpV_assign rfl) rfl ?_
      refine wpR_nil ?_
      refine QE_then_n ?_
      refine wpC_ret ?_
      refine QE_blk_r ?_
      refine QE_then_r ?_
      cases h
      exact QE_ret1 rfl rfl ⟨rfl, hS⟩
    · have h := if_f h hb_3
      refine wpC_seq ?_
      refine wpC_region ?_
      refine wpR_v (OpV_move rfl) rfl ?_
      refine wpR_v (OpV_bin rfl rfl (b_lss64 _ a0 65536)) rfl ?_
      refine wpR_v (OpV_assign rfl) rfl ?_
      refine wpR_nil ?_
      refine QE_then_n ?_
      refine wpC_cond rfl (fun hb_2 => ?_) (fun hb_2 => ?_)
      · have h := if_t h hb_2
        refine wpC_seq ?_
        refine wpC_region ?_
        refine wpR_v (OpV_assign rfl) rfl ?_
        refine wpR_nil ?_
        refine QE_then_n ?_
        refine wpC_ret ?_
        refine QE_blk_r ?_
        refine QE_then_r ?_
        cases h
        exact QE_ret1 rfl rfl ⟨rfl, hS⟩
      · have h := if_f h hb_2
        refine wpC_seq ?_
        refine wpC_region ?_
        refine wpR_v (OpV_move rfl) rfl ?_
        refine wpR_v (OpV_bin rfl rfl (b_lss64 _ a0 4294967296)) rfl ?_
        refine wpR_v (OpV_assign rfl) rfl ?_
        refine wpR_nil ?_
        refine QE_then_n ?_
        refine wpC_cond rfl (fun hb_1 => ?_) (fun hb_1 => ?_)
        · have h := if_t h hb_1
          refine wpC_seq ?_
          refine wpC_region ?_
          refine wpR_v (OpV_assign rfl) rfl ?_
          refine wpR_nil ?_
          refine QE_then_n ?_
          refine wpC_ret ?_
          refine QE_blk_r ?_
          refine QE_then_r ?_
          cases h
          exact QE_ret1 rfl rfl ⟨rfl, hS⟩
        · have h := if_f h hb_1
          refine wpC_skip ?_
          refine QE_blk_n ?_
          refine QE_then_n ?_
          refine wpC_seq ?_
          refine wpC_region ?_
          refine wpR_v (OpV_assign rfl) rfl ?_
          refine wpR_nil ?_
          refine QE_then_n ?_
          refine wpC_ret ?_
          cases h
          exact QE_ret1 rfl rfl ⟨rfl, hS⟩


end Go.Proofs
