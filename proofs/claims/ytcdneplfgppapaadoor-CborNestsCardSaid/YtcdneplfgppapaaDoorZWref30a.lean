/- Walks: each Go function of package ref30 computes its plain function. Written by a program of ours. -/
import Derived.Test.YtcdneplfgppapaaDoorZW0
import Derived.Test.YtcdneplfgppapaaDoorGkFref30
import Derived.Test.YtcdneplfgppapaaDoorZWref3
set_option linter.unusedVariables false
set_option linter.unusedSimpArgs false
set_option linter.unusedVariables false
set_option maxRecDepth 4000
namespace Go.Proofs
open Go Go.RowKit Go.Gk

theorem c_ref30_wide (w0 : World) (a0 : UInt64)   (r : Int)
    (h : F.ref30_wide a0 = some r) : Calls Tryd.prog 61 #[v64 a0] w0 (Ret fun v w => v = vI r ∧ St [] w0 w []) := by
  refine calls_at 15 Tryd.func61 rfl rfl rfl ?_
  have hS := St.start w0
  refine wpC_le [(0, v64 a0)] ⟨rfl, trivial⟩ ?_
  unfold F.ref30_wide at h
  refine wpC_seq ?_
  refine wpC_region ?_
  refine wpR_v (OpV_assign rfl) rfl ?_
  refine wpR_nil ?_
  refine QE_then_n ?_
  refine wpC_seq ?_
  refine wpC_block ?_
  refine wpC_seq ?_
  refine wpC_region ?_
  refine wpR_v (OpV_move rfl) rfl ?_
  refine wpR_v (OpV_bin rfl rfl (b_lss64 _ a0 24)) rfl ?_
  refine wpR_v (OpV_assign rfl) rfl ?_
  refine wpR_nil ?_
  refine QE_then_n ?_
  refine wpC_cond rfl (fun hb_4 => ?_) (fun hb_4 => ?_)
  · have h := if_t h hb_4
    refine wpC_seq ?_
    refine wpC_region ?_
    refine wpR_v (OpV_assign rfl) rfl ?_
    refine wpR_nil ?_
    refine QE_then_n ?_
    refine wpC_ret ?_
    refine QE_blk_r ?_
    refine QE_then_r ?_
    cases h
    exact QE_ret1 rfl rfl ⟨rfl, hS⟩
  · have h := if_f h hb_4
    refine wpC_seq ?_
    refine wpC_region ?_
    refine wpR_v (OpV_move rfl) rfl ?_
    refine wpR_v (OpV_bin rfl rfl (b_lss64 _ a0 256)) rfl ?_
    refine wpR_v (OpV_assign rfl) rfl ?_
    refine wpR_nil ?_
    refine QE_then_n ?_
    refine wpC_cond rfl (fun hb_3 => ?_) (fun hb_3 => ?_)
    · have h := if_t h hb_3
      refine wpC_seq ?_
      refine wpC_region ?_
      refine wpR_v (OpV_assign rfl) rfl ?_
      refine wpR_nil ?_
      refine QE_then_n ?_
      refine wpC_ret ?_
      refine QE_blk_r ?_
      refine QE_then_r ?_
      cases h
      exact QE_ret1 rfl rfl ⟨rfl, hS⟩
    · have h := if_f h hb_3
      refine wpC_seq ?_
      refine wpC_region ?_
      refine wpR_v (OpV_move rfl) rfl ?_
      refine wpR_v (OpV_bin rfl rfl (b_lss64 _ a0 65536)) rfl ?_
      refine wpR_v (OpV_assign rfl) rfl ?_
      refine wpR_nil ?_
      refine QE_then_n ?_
      refine wpC_cond rfl (fun hb_2 => ?_) (fun hb_2 => ?_)
      · have h := if_t h hb_2
        refine wpC_seq ?_
        refine wpC_region ?_
        refine wpR_v (OpV_assign rfl) rfl ?_
        refine wpR_nil ?_
        refine QE_then_n ?_
        refine wpC_ret ?_
        refine QE_blk_r ?_
        refine QE_then_r ?_
        cases h
        exact QE_ret1 rfl rfl ⟨rfl, hS⟩
      · have h := if_f h hb_2
        refine wpC_seq ?_
        refine wpC_region ?_
        refine wpR_v (OpV_move rfl) rfl ?_
        refine wpR_v (OpV_bin rfl rfl (b_lss64 _ a0 4294967296)) rfl ?_
        refine wpR_v (OpV_assign rfl) rfl ?_
        refine wpR_nil ?_
        refine QE_then_n ?_
        refine wpC_cond rfl (fun hb_1 => ?_) (fun hb_1 => ?_)
        · have h := if_t h hb_1
          refine wpC_seq ?_
          refine wpC_region ?_
          refine wpR_v (OpV_assign rfl) rfl ?_
          refine wpR_nil ?_
          refine QE_then_n ?_
          refine wpC_ret ?_
          refine QE_blk_r ?_
          refine QE_then_r ?_
          cases h
          exact QE_ret1 rfl rfl ⟨rfl, hS⟩
        · have h := if_f h hb_1
          refine wpC_skip ?_
          refine QE_blk_n ?_
          refine QE_then_n ?_
          refine wpC_seq ?_
          refine wpC_region ?_
          refine wpR_v (OpV_assign rfl) rfl ?_
          refine wpR_nil ?_
          refine QE_then_n ?_
          refine wpC_ret ?_
          cases h
          exact QE_ret1 rfl rfl ⟨rfl, hS⟩

theorem c_ref30_utf8 (w0 : World) (a0 : List UInt8)   (r : Bool)
    (h : F.ref30_utf8 a0 = some r) : Calls Tryd.prog 52 #[vS a0] w0 (Ret fun v w => v = vB r ∧ St [] w0 w []) := by
  refine calls_at 7 Tryd.func52 rfl rfl rfl ?_
  have hS := St.start w0
  refine wpC_le [(0, vS a0)] ⟨rfl, trivial⟩ ?_
  unfold F.ref30_utf8 at h
  refine wpC_seq ?_
  refine wpC_region ?_
  refine wpR_v (OpV_assign rfl) rfl ?_
  refine wpR_nil ?_
  refine QE_then_n ?_
  refine wpC_seq ?_
  refine wpC_region ?_
  refine wpR_v (OpV_move rfl) rfl ?_
  refine wpR_v (OpV_build (vs := [(0, vI 5, [vI 5]), (2, vS a0, [vS a0])]) (cells := [vI 5, vS [], vS a0, vB false, vI 0, vI 0]) rfl lay99 ⟨rfl, rfl, trivial⟩ rfl) rfl ?_
  refine wpR_x (OpX_litE (e := (eP eI (eP eS (eP eS (eP eB (eP eI eI)))))) (l := ([(5, [], a0, false, 0, 0)] : List (Int × (List UInt8) × (List UInt8) × Bool × Int × Int))) (vs := [(0, .agg #[vI 5, vS [], vS a0, vB false, vI 0, vI 0], [vI 5, vS [], vS a0, vB false, vI 0, vI 0])]) Tryd.underlying100 ti99 rfl ⟨rfl, trivial⟩ rfl rfl (Nat.le_of_ble_eq_true rfl) (Nat.le_of_ble_eq_true rfl) hS) rfl ?_
  rintro v_1 w hS
  obtain ⟨x_3, hx_3, h⟩ := obind_some h
  refine wpR_call (by kernel_rfl) rfl (c_ref3_Shaped _ ([(5, [], a0, false, 0, 0)] : List (Int × (List UInt8) × (List UInt8) × Bool × Int × Int)) v_1  (hS.ro 0 rfl).rp _ hx_3) rfl ?_
  rintro _ w ⟨rfl, hS1⟩
  have hS := hS.call hS1
  simp only [List.cons_append, List.nil_append] at hS
  refine wpR_v (OpV_assign rfl) rfl ?_
  refine wpR_nil ?_
  refine QE_then_n ?_
  refine wpC_ret ?_
  cases h
  exact QE_ret1 rfl rfl ⟨rfl, hS.pick [] (by decide) rfl⟩

theorem c_ref30_Less (w0 : World) (a0 : List UInt8) (a1 : List UInt8)   (r : Bool)
    (h : F.ref30_Less a0 a1 = some r) : Calls Tryd.prog 53 #[vS a0, vS a1] w0 (Ret fun v w => v = vB r ∧ St [] w0 w []) := by
  refine calls_at 37 Tryd.func53 rfl rfl rfl ?_
  have hS := St.start w0
  refine wpC_le [(0, vS a0), (1, vS a1)] ⟨rfl, rfl, trivial⟩ ?_
  unfold F.ref30_Less at h
  refine wpC_seq ?_
  refine wpC_region ?_
  refine wpR_v (OpV_assign rfl) rfl ?_
  refine wpR_nil ?_
  refine QE_then_n ?_
  refine wpC_seq ?_
  refine wpC_seq ?_
  refine wpC_region ?_
  refine wpR_v (OpV_assign rfl) rfl ?_
  refine wpR_nil ?_
  refine QE_then_n ?_
  refine wpC_block ?_
  refine wpC_le [(0, vS a0), (1, vS a1), (5, vI 0)] ⟨rfl, rfl, rfl, trivial⟩ ?_
  refine loop_ind (F.ref30_Less_L1 a0 a1) (fun (s : Int) L w => L = [(0, vS a0), (1, vS a1), (5, vI s)] ∧ St [] w0 w []) ?_ 0 ⟨rfl, hS⟩ h
  rintro k_14 x_1 L w q_4 hI ih_3 h hk_2
  try dsimp only at hI
  obtain ⟨rfl, hS⟩ := hI
  unfold F.ref30_Less_L1 at h
  refine wpC_seq ?_
  refine seq_join (r := q_4) (fun (g : Bool) L w => L = [(0, vS a0), (1, vS a1), (5, vI x_1), (15, vB g)] ∧ St [] w0 w []) (F.ref30_Less_K1 a0 a1 x_1) ?_ ?_
  · rintro x_6 L w hJ h
    try dsimp only at hJ
    obtain ⟨rfl, hS⟩ := hJ
    unfold F.ref30_Less_K1 at h
    refine wpC_cond rfl (fun hb_13 => ?_) (fun hb_13 => ?_)
    · have h := if_t h hb_13
      refine wpC_skip ?_
      refine QE_then_n ?_
      refine wpC_seq ?_
      refine wpC_block ?_
      refine wpC_seq ?_
      refine wpC_regionT (fun w' => St [] w0 w' []) (fun _ => true) hmix (fun _ _ _ hf => hf.2) (fun _ _ hf => hf) (by kernel_rfl) ?_
      have hS := hS.drew
      show lxE _ _ _ _ _ _ _ [0, 1, 2, 3, 4, 5, 6] _ _
      refine lxE_v hS rfl rfl (fun w hF => OpV_move rfl) rfl ?_
      refine lxE_v hS rfl rfl (fun w hF => OpV_move rfl) rfl ?_
      obtain ⟨x_8, hx_8, h⟩ := obind_some h
      refine lxE_v hS rfl rfl (fun w hF => G_ixS Tryd.underlying9 rfl rfl hx_8) rfl ?_
      refine lxE_v hS rfl rfl (fun w hF => OpV_move rfl) rfl ?_
      refine lxE_v hS rfl rfl (fun w hF => OpV_move rfl) rfl ?_
      obtain ⟨x_9, hx_9, h⟩ := obind_some h
      refine lxE_v hS rfl rfl (fun w hF => G_ixS Tryd.underlying9 rfl rfl hx_9) rfl ?_
      refine lxE_v hS rfl rfl (fun w hF => OpV_bin rfl rfl (b_neq8 _ x_8 x_9)) rfl ?_
      refine lxE_nil hS ?_
      refine QE_then_n ?_
      refine wpC_cond rfl (fun hb_12 => ?_) (fun hb_12 => ?_)
      · have h := if_t h hb_12
        refine wpC_seq ?_
        refine wpC_regionT (fun w' => St [] w0 w' []) (fun _ => true) hmix (fun _ _ _ hf => hf.2) (fun _ _ hf => hf) (by kernel_rfl) ?_
        have hS := hS.drew
        show lxE _ _ _ _ _ _ _ [0, 1, 2, 3, 4, 5, 6, 7] _ _
        refine lxE_v hS rfl rfl (fun w hF => OpV_move rfl) rfl ?_
        refine lxE_v hS rfl rfl (fun w hF => OpV_move rfl) rfl ?_
        obtain ⟨x_10, hx_10, h⟩ := obind_some h
        refine lxE_v hS rfl rfl (fun w hF => G_ixS Tryd.underlying9 rfl rfl hx_10) rfl ?_
        refine lxE_v hS rfl rfl (fun w hF => OpV_move rfl) rfl ?_
        refine lxE_v hS rfl rfl (fun w hF => OpV_move rfl) rfl ?_
        obtain ⟨x_11, hx_11, h⟩ := obind_some h
        refine lxE_v hS rfl rfl (fun w hF => G_ixS Tryd.underlying9 rfl rfl hx_11) rfl ?_
        refine lxE_v hS rfl rfl (fun w hF => OpV_bin rfl rfl (b_lss8 _ x_10 x_11)) rfl ?_
        refine lxE_v hS rfl rfl (fun w hF => OpV_assign rfl) rfl ?_
        refine lxE_nil hS ?_
        refine QE_then_n ?_
        refine wpC_ret ?_
        refine QE_blk_r ?_
        refine QE_then_r ?_
        refine QE_then_r ?_
        have h := oinr_some h hk_2
        refine QE_blk_r ?_
        refine QE_then_r ?_
        cases h
        exact QE_ret1 rfl rfl ⟨rfl, hS⟩
      · have h := if_f h hb_12
        refine wpC_skip ?_
        refine QE_blk_n ?_
        refine QE_then_n ?_
        refine wpC_region ?_
        refine wpR_v (OpV_move rfl) rfl ?_
        refine wpR_v (OpV_bin rfl rfl (b_iadd _ x_1 1)) rfl ?_
        refine wpR_v (OpV_assign rfl) rfl ?_
        refine wpR_nil ?_
        exact QE_rnd (wpN_le _ (by exact ⟨rfl, rfl, rfl, trivial⟩) (ih_3 (wI (x_1 + 1)) _ _ ⟨rfl, hS⟩ (oinl_some h hk_2)))
    · have h := if_f h hb_13
      refine wpC_exit ?_
      refine QE_then_x ?_
      refine QE_then_x ?_
      have h := oinr_some h hk_2
      refine QE_blk_x ?_
      refine QE_then_n ?_
      refine wpC_seq ?_
      refine wpC_region ?_
      refine wpR_v (OpV_move rfl) rfl ?_
      refine wpR_v (OpV_lenS Tryd.underlying9 rfl) rfl ?_
      refine wpR_v (OpV_move rfl) rfl ?_
      refine wpR_v (OpV_lenS Tryd.underlying9 rfl) rfl ?_
      refine wpR_v (OpV_bin rfl rfl (b_ilss _ (a0.length : Int) (a1.length : Int))) rfl ?_
      refine wpR_v (OpV_assign rfl) rfl ?_
      refine wpR_nil ?_
      refine QE_then_n ?_
      refine wpC_ret ?_
      cases h
      exact QE_ret1 rfl rfl ⟨rfl, hS⟩
  · intro hK_7
    refine wpC_region ?_
    refine wpR_v (OpV_move rfl) rfl ?_
    refine wpR_v (OpV_move rfl) rfl ?_
    refine wpR_v (OpV_lenS Tryd.underlying9 rfl) rfl ?_
    refine wpR_v (OpV_bin rfl rfl (b_ilss _ x_1 (a0.length : Int))) rfl ?_
    refine wpR_v (OpV_move rfl) rfl ?_
    cases hb_5 : (decide (x_1 < (a0.length : Int)))
    case true =>
      have h := if_t h hb_5
      try simp only [hb_5]
      refine wpR_gv (t := 10) rfl rfl (OpV_move rfl) rfl ?_
      refine wpR_gv (t := 10) rfl rfl (OpV_move rfl) rfl ?_
      refine wpR_gv (t := 10) rfl rfl (OpV_lenS Tryd.underlying9 rfl) rfl ?_
      refine wpR_gv (t := 10) rfl rfl (OpV_bin rfl rfl (b_ilss _ x_1 (a1.length : Int))) rfl ?_
      refine wpR_v (OpV_pickT rfl rfl) rfl ?_
      refine wpR_nil ?_
      refine QE_then_n ?_
      exact wpC_le _ (by exact ⟨rfl, rfl, rfl, rfl, trivial⟩) (hK_7 (decide (x_1 < (a1.length : Int))) _ _ ⟨rfl, hS⟩ h)
    case false =>
      have h := if_f h hb_5
      try simp only [hb_5]
      refine wpR_gskip (b := false) (t := 10) rfl rfl rfl rfl ?_
      refine wpR_gskip (b := false) (t := 10) rfl rfl rfl rfl ?_
      refine wpR_gskip (b := false) (t := 10) rfl rfl rfl rfl ?_
      refine wpR_gskip (b := false) (t := 10) rfl rfl rfl rfl ?_
      refine wpR_v (OpV_pickF rfl rfl) rfl ?_
      refine wpR_nil ?_
      refine QE_then_n ?_
      exact wpC_le _ (by exact ⟨rfl, rfl, rfl, rfl, trivial⟩) (hK_7 false _ _ ⟨rfl, hS⟩ h)

end Go.Proofs
