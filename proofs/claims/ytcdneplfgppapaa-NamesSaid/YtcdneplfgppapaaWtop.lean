/- Walks: each Go function of package top computes its plain function. Written by a program of ours. -/
import Derived.Test.YtcdneplfgppapaaW0
import Derived.Test.YtcdneplfgppapaaGkFtop
set_option linter.unusedVariables false
set_option maxRecDepth 4000
namespace Go.Proofs
open Go Go.RowKit Go.Gk

theorem c_top_numbers (w0 : World)    (r : List Int)
    (h : F.top_numbers  = some r) : Calls Try.prog 4 #[] w0 (Ret fun v w => St [] w0 w [own eI v r]) := by
  refine calls_at 30 Try.func4 rfl rfl rfl ?_
  have hS := St.start w0
  refine wpC_le [] trivial ?_
  unfold F.top_numbers at h
  refine wpC_seq ?_
  refine wpC_region ?_
  refine wpR_v (OpV_assign rfl) rfl ?_
  refine wpR_nil ?_
  refine QE_then_n ?_
  refine wpC_seq ?_
  refine wpC_region ?_
  refine wpR_v (OpV_assign rfl) rfl ?_
  refine wpR_nil ?_
  refine QE_then_n ?_
  refine wpC_seq ?_
  refine wpC_region ?_
  refine wpR_v (OpV_move rfl) rfl ?_
  refine wpR_x (OpX_lit (e := eI) (l := ([0, 10, 11, 12, 20, 21, 22, 30, 31, 32, 33, 34] : List Int)) (vs := [vI 0, vI 10, vI 11, vI 12, vI 20, vI 21, vI 22, vI 30, vI 31, vI 32, vI 33, vI 34]) Try.underlying22 ti3 rfl rfl rfl rfl (by decide) (by decide) hS) rfl ?_
  rintro v_1 w hS
  obtain ⟨x_3, hx_3, h⟩ := obind_some h
  refine wpR_x (G_append0 Try.underlying22 ti3 rfl rfl rfl hS (hS.ro 0 rfl) hx_3) rfl ?_
  rintro v_4 w hS
  refine wpR_v (OpV_assign rfl) rfl ?_
  refine wpR_nil ?_
  refine QE_then_n ?_
  refine wpC_seq ?_
  refine wpC_region ?_
  refine wpR_v (OpV_move rfl) rfl ?_
  refine wpR_x (OpX_lit (e := eI) (l := ([60, 61, 80, 90, 91, 92, 93, 100, 101, 102, 103, 104] : List Int)) (vs := [vI 60, vI 61, vI 80, vI 90, vI 91, vI 92, vI 93, vI 100, vI 101, vI 102, vI 103, vI 104]) Try.underlying22 ti3 rfl rfl rfl rfl (by decide) (by decide) hS) rfl ?_
  rintro v_6 w hS
  obtain ⟨x_8, hx_8, h⟩ := obind_some h
  refine wpR_x (G_append Try.underlying22 ti3 rfl rfl rfl hS (i := 1) rfl (hS.ro 0 rfl) hx_8) rfl ?_
  rintro v_9 w hS
  refine wpR_v (OpV_assign rfl) rfl ?_
  refine wpR_nil ?_
  refine QE_then_n ?_
  refine wpC_seq ?_
  refine wpC_region ?_
  refine wpR_v (OpV_move rfl) rfl ?_
  refine wpR_x (OpX_lit (e := eI) (l := ([105, 110, 111, 112, 113, 120, 130, 131, 132, 133, 134, 135] : List Int)) (vs := [vI 105, vI 110, vI 111, vI 112, vI 113, vI 120, vI 130, vI 131, vI 132, vI 133, vI 134, vI 135]) Try.underlying22 ti3 rfl rfl rfl rfl (by decide) (by decide) hS) rfl ?_
  rintro v_11 w hS
  obtain ⟨x_13, hx_13, h⟩ := obind_some h
  refine wpR_x (G_append Try.underlying22 ti3 rfl rfl rfl hS (i := 2) rfl (hS.ro 0 rfl) hx_13) rfl ?_
  rintro v_14 w hS
  refine wpR_v (OpV_assign rfl) rfl ?_
  refine wpR_nil ?_
  refine QE_then_n ?_
  refine wpC_seq ?_
  refine wpC_region ?_
  refine wpR_v (OpV_move rfl) rfl ?_
  refine wpR_x (OpX_lit (e := eI) (l := ([136, 137, 140, 141, 150, 151, 152, 153, 160, 161, 162, 163] : List Int)) (vs := [vI 136, vI 137, vI 140, vI 141, vI 150, vI 151, vI 152, vI 153, vI 160, vI 161, vI 162, vI 163]) Try.underlying22 ti3 rfl rfl rfl rfl (by decide) (by decide) hS) rfl ?_
  rintro v_16 w hS
  obtain ⟨x_18, hx_18, h⟩ := obind_some h
  refine wpR_x (G_append Try.underlying22 ti3 rfl rfl rfl hS (i := 3) rfl (hS.ro 0 rfl) hx_18) rfl ?_
  rintro v_19 w hS
  refine wpR_v (OpV_assign rfl) rfl ?_
  refine wpR_nil ?_
  refine QE_then_n ?_
  refine wpC_seq ?_
  refine wpC_region ?_
  refine wpR_v (OpV_move rfl) rfl ?_
  refine wpR_x (OpX_lit (e := eI) (l := ([170, 180, 181, 190, 1, 2, 3, 4, 5, 6, 7, 1] : List Int)) (vs := [vI 170, vI 180, vI 181, vI 190, vI 1, vI 2, vI 3, vI 4, vI 5, vI 6, vI 7, vI 1]) Try.underlying22 ti3 rfl rfl rfl rfl (by decide) (by decide) hS) rfl ?_
  rintro v_21 w hS
  obtain ⟨x_23, hx_23, h⟩ := obind_some h
  refine wpR_x (G_append Try.underlying22 ti3 rfl rfl rfl hS (i := 4) rfl (hS.ro 0 rfl) hx_23) rfl ?_
  rintro v_24 w hS
  refine wpR_v (OpV_assign rfl) rfl ?_
  refine wpR_nil ?_
  refine QE_then_n ?_
  refine wpC_seq ?_
  refine wpC_region ?_
  refine wpR_v (OpV_move rfl) rfl ?_
  refine wpR_x (OpX_lit (e := eI) (l := ([2, 3, 0, 1, 2, 3, 4, 5, 6, 7, 8, 9] : List Int)) (vs := [vI 2, vI 3, vI 0, vI 1, vI 2, vI 3, vI 4, vI 5, vI 6, vI 7, vI 8, vI 9]) Try.underlying22 ti3 rfl rfl rfl rfl (by decide) (by decide) hS) rfl ?_
  rintro v_26 w hS
  obtain ⟨x_28, hx_28, h⟩ := obind_some h
  refine wpR_x (G_append Try.underlying22 ti3 rfl rfl rfl hS (i := 5) rfl (hS.ro 0 rfl) hx_28) rfl ?_
  rintro v_29 w hS
  refine wpR_v (OpV_assign rfl) rfl ?_
  refine wpR_nil ?_
  refine QE_then_n ?_
  refine wpC_seq ?_
  refine wpC_region ?_
  refine wpR_v (OpV_move rfl) rfl ?_
  refine wpR_x (OpX_lit (e := eI) (l := ([10, 11, 12, 0, 1, 2, 3, 4, 0, 1, 2, 3] : List Int)) (vs := [vI 10, vI 11, vI 12, vI 0, vI 1, vI 2, vI 3, vI 4, vI 0, vI 1, vI 2, vI 3]) Try.underlying22 ti3 rfl rfl rfl rfl (by decide) (by decide) hS) rfl ?_
  rintro v_31 w hS
  obtain ⟨x_33, hx_33, h⟩ := obind_some h
  refine wpR_x (G_append Try.underlying22 ti3 rfl rfl rfl hS (i := 6) rfl (hS.ro 0 rfl) hx_33) rfl ?_
  rintro v_34 w hS
  refine wpR_v (OpV_assign rfl) rfl ?_
  refine wpR_nil ?_
  refine QE_then_n ?_
  refine wpC_seq ?_
  refine wpC_region ?_
  refine wpR_v (OpV_move rfl) rfl ?_
  refine wpR_x (OpX_lit (e := eI) (l := ([1, 2, 3, 4, 5, 6, 7, 8, 9, 10, 11] : List Int)) (vs := [vI 1, vI 2, vI 3, vI 4, vI 5, vI 6, vI 7, vI 8, vI 9, vI 10, vI 11]) Try.underlying22 ti3 rfl rfl rfl rfl (by decide) (by decide) hS) rfl ?_
  rintro v_36 w hS
  obtain ⟨x_38, hx_38, h⟩ := obind_some h
  refine wpR_x (G_append Try.underlying22 ti3 rfl rfl rfl hS (i := 7) rfl (hS.ro 0 rfl) hx_38) rfl ?_
  rintro v_39 w hS
  refine wpR_v (OpV_assign rfl) rfl ?_
  refine wpR_nil ?_
  refine QE_then_n ?_
  refine wpC_seq ?_
  refine wpC_region ?_
  refine wpR_v (OpV_move rfl) rfl ?_
  refine wpR_x (OpX_lit (e := eI) (l := ([200, 201, 210, 211, 220, 221, 230, 231, 232, 233, 234, 240, 241, 242, 250] : List Int)) (vs := [vI 200, vI 201, vI 210, vI 211, vI 220, vI 221, vI 230, vI 231, vI 232, vI 233, vI 234, vI 240, vI 241, vI 242, vI 250]) Try.underlying22 ti3 rfl rfl rfl rfl (by decide) (by decide) hS) rfl ?_
  rintro v_41 w hS
  obtain ⟨x_43, hx_43, h⟩ := obind_some h
  refine wpR_x (G_append Try.underlying22 ti3 rfl rfl rfl hS (i := 8) rfl (hS.ro 0 rfl) hx_43) rfl ?_
  rintro v_44 w hS
  refine wpR_v (OpV_assign rfl) rfl ?_
  refine wpR_nil ?_
  refine QE_then_n ?_
  refine wpC_seq ?_
  refine wpC_region ?_
  refine wpR_v (OpV_move rfl) rfl ?_
  refine wpR_v (OpV_assign rfl) rfl ?_
  refine wpR_nil ?_
  refine QE_then_n ?_
  refine wpC_ret ?_
  cases h
  exact QE_ret1 rfl rfl (hS.pick [8] (by decide) rfl)

theorem c_top_wanted (w0 : World)    (r : List Int)
    (h : F.top_wanted  = some r) : Calls Try.prog 5 #[] w0 (Ret fun v w => St [] w0 w [own eI v r]) := by
  refine calls_at 2 Try.func5 rfl rfl rfl ?_
  have hS := St.start w0
  refine wpC_le [] trivial ?_
  unfold F.top_wanted at h
  refine wpC_seq ?_
  refine wpC_region ?_
  refine wpR_v (OpV_assign rfl) rfl ?_
  refine wpR_nil ?_
  refine QE_then_n ?_
  refine wpC_seq ?_
  refine wpC_region ?_
  refine wpR_x (OpX_lit (e := eI) (l := ([0, 10, 11, 12, 20, 21, 22, 30, 31, 32, 33, 34, 60, 61, 80, 90, 91, 92, 93, 100, 101, 102, 103, 104, 105, 110, 111, 112, 113, 120, 130, 131, 132, 133, 134, 135, 136, 137, 140, 141, 150, 151, 152, 153, 160, 161, 162, 163, 170, 180, 181, 190, 1, 2, 3, 4, 5, 6, 7, 1, 2, 3, 0, 1, 2, 3, 4, 5, 6, 7, 8, 9, 10, 11, 12, 0, 1, 2, 3, 4, 0, 1, 2, 3, 1, 2, 3, 4, 5, 6, 7, 8, 9, 10, 11, 200, 201, 210, 211, 220, 221, 230, 231, 232, 233, 234, 240, 241, 242, 250] : List Int)) (vs := [vI 0, vI 10, vI 11, vI 12, vI 20, vI 21, vI 22, vI 30, vI 31, vI 32, vI 33, vI 34, vI 60, vI 61, vI 80, vI 90, vI 91, vI 92, vI 93, vI 100, vI 101, vI 102, vI 103, vI 104, vI 105, vI 110, vI 111, vI 112, vI 113, vI 120, vI 130, vI 131, vI 132, vI 133, vI 134, vI 135, vI 136, vI 137, vI 140, vI 141, vI 150, vI 151, vI 152, vI 153, vI 160, vI 161, vI 162, vI 163, vI 170, vI 180, vI 181, vI 190, vI 1, vI 2, vI 3, vI 4, vI 5, vI 6, vI 7, vI 1, vI 2, vI 3, vI 0, vI 1, vI 2, vI 3, vI 4, vI 5, vI 6, vI 7, vI 8, vI 9, vI 10, vI 11, vI 12, vI 0, vI 1, vI 2, vI 3, vI 4, vI 0, vI 1, vI 2, vI 3, vI 1, vI 2, vI 3, vI 4, vI 5, vI 6, vI 7, vI 8, vI 9, vI 10, vI 11, vI 200, vI 201, vI 210, vI 211, vI 220, vI 221, vI 230, vI 231, vI 232, vI 233, vI 234, vI 240, vI 241, vI 242, vI 250]) Try.underlying22 ti3 rfl rfl rfl rfl (by decide) (by decide) hS) rfl ?_
  rintro v_1 w hS
  refine wpR_v (OpV_assign rfl) rfl ?_
  refine wpR_nil ?_
  refine QE_then_n ?_
  refine wpC_ret ?_
  cases h
  exact QE_ret1 rfl rfl (hS.pick [0] (by decide) rfl)

theorem c_top_limits (w0 : World)    (r : Bool)
    (h : F.top_limits  = some r) : Calls Try.prog 6 #[] w0 (Ret fun v w => v = vB r ∧ St [] w0 w []) := by
  refine calls_at 21 Try.func6 rfl rfl rfl ?_
  have hS := St.start w0
  refine wpC_le [] trivial ?_
  unfold F.top_limits at h
  refine wpC_seq ?_
  refine wpC_region ?_
  refine wpR_v (OpV_assign rfl) rfl ?_
  refine wpR_nil ?_
  refine QE_then_n ?_
  refine wpC_seq ?_
  refine wpC_region ?_
  refine wpR_x (OpX_lit (e := eI) (l := ([65536, 262144, 32, 600, 2048, 4096, 32, 4096, 128, 32, 65536, 8, 4096, 1024, 16, 1024, 65536, 8, 1048576, 65536] : List Int)) (vs := [vI 65536, vI 262144, vI 32, vI 600, vI 2048, vI 4096, vI 32, vI 4096, vI 128, vI 32, vI 65536, vI 8, vI 4096, vI 1024, vI 16, vI 1024, vI 65536, vI 8, vI 1048576, vI 65536]) Try.underlying22 ti3 rfl rfl rfl rfl (by decide) (by decide) hS) rfl ?_
  rintro v_1 w hS
  refine wpR_v (OpV_assign rfl) rfl ?_
  refine wpR_nil ?_
  refine QE_then_n ?_
  refine wpC_seq ?_
  refine wpC_region ?_
  refine wpR_x (OpX_lit (e := eI) (l := ([65536, 262144, 32, 600, 2048, 4096, 32, 4096, 128, 32, 65536, 8, 4096, 1024, 16, 1024, 65536, 8, 1048576, 65536] : List Int)) (vs := [vI 65536, vI 262144, vI 32, vI 600, vI 2048, vI 4096, vI 32, vI 4096, vI 128, vI 32, vI 65536, vI 8, vI 4096, vI 1024, vI 16, vI 1024, vI 65536, vI 8, vI 1048576, vI 65536]) Try.underlying22 ti3 rfl rfl rfl rfl (by decide) (by decide) hS) rfl ?_
  rintro v_3 w hS
  refine wpR_v (OpV_assign rfl) rfl ?_
  refine wpR_nil ?_
  refine QE_then_n ?_
  refine wpC_seq ?_
  refine wpC_seq ?_
  refine wpC_region ?_
  refine wpR_v (OpV_assign rfl) rfl ?_
  refine wpR_nil ?_
  refine QE_then_n ?_
  refine wpC_block ?_
  refine wpC_le [(1, v_1), (2, v_3), (3, vI 0)] ⟨rfl, rfl, rfl, trivial⟩ ?_
  refine loop_ind (F.top_limits_L1) (fun (s : Int) L w => L = [(1, v_1), (2, v_3), (3, vI s)] ∧ St [] w0 w [own eI v_1 ([65536, 262144, 32, 600, 2048, 4096, 32, 4096, 128, 32, 65536, 8, 4096, 1024, 16, 1024, 65536, 8, 1048576, 65536] : List Int), own eI v_3 ([65536, 262144, 32, 600, 2048, 4096, 32, 4096, 128, 32, 65536, 8, 4096, 1024, 16, 1024, 65536, 8, 1048576, 65536] : List Int)]) ?_ 0 ⟨rfl, (hS.pick [1, 0] (by decide) rfl)⟩ h
  rintro k_13 x_5 L w q_8 hI ih_7 h hk_6
  try dsimp only at hI
  obtain ⟨rfl, hS⟩ := hI
  unfold F.top_limits_L1 at h
  refine wpC_seq ?_
  refine wpC_seq ?_
  refine wpC_region ?_
  refine wpR_v (OpV_move rfl) rfl ?_
  refine wpR_v (OpV_move rfl) rfl ?_
  refine wpR_v (OpV_len Try.underlying22 rfl (hS.ro 0 rfl)) rfl ?_
  refine wpR_v (OpV_bin rfl rfl (b_ilss _ x_5 (([65536, 262144, 32, 600, 2048, 4096, 32, 4096, 128, 32, 65536, 8, 4096, 1024, 16, 1024, 65536, 8, 1048576, 65536] : List Int).length : Int))) rfl ?_
  refine wpR_nil ?_
  refine QE_then_n ?_
  refine wpC_cond rfl (fun hb_12 => ?_) (fun hb_12 => ?_)
  · have h := if_t h hb_12
    refine wpC_skip ?_
    refine QE_then_n ?_
    refine wpC_seq ?_
    refine wpC_block ?_
    refine wpC_seq ?_
    refine wpC_regionT (fun w' => St [] w0 w' [own eI v_1 ([65536, 262144, 32, 600, 2048, 4096, 32, 4096, 128, 32, 65536, 8, 4096, 1024, 16, 1024, 65536, 8, 1048576, 65536] : List Int), own eI v_3 ([65536, 262144, 32, 600, 2048, 4096, 32, 4096, 128, 32, 65536, 8, 4096, 1024, 16, 1024, 65536, 8, 1048576, 65536] : List Int)]) (fun _ => true) hmix (fun _ _ _ hf => hf.2) (fun _ _ hf => hf) (by kernel_rfl) ?_
    have hS := hS.drew
    show lxE _ _ _ _ _ _ [0, 1, 2, 3, 4, 5, 6, 7, 8] _ _
    refine lxE_v hS rfl rfl (fun w hS => OpV_move rfl) rfl ?_
    refine lxE_v hS rfl rfl (fun w hS => OpV_move rfl) rfl ?_
    obtain ⟨x_9, hx_9, h⟩ := obind_some h
    refine lxE_v hS rfl rfl (fun w hS => G_ix Try.underlying22 ti3 rfl rfl (hS.ro 0 rfl) hx_9) rfl ?_
    refine lxE_v hS rfl rfl (fun w hS => G_load Try.underlying3 rfl rfl (hS.ro 0 rfl) hx_9 rfl) rfl ?_
    refine lxE_v hS rfl rfl (fun w hS => OpV_move rfl) rfl ?_
    refine lxE_v hS rfl rfl (fun w hS => OpV_move rfl) rfl ?_
    obtain ⟨x_10, hx_10, h⟩ := obind_some h
    refine lxE_v hS rfl rfl (fun w hS => G_ix Try.underlying22 ti3 rfl rfl (hS.ro 1 rfl) hx_10) rfl ?_
    refine lxE_v hS rfl rfl (fun w hS => G_load Try.underlying3 rfl rfl (hS.ro 1 rfl) hx_10 rfl) rfl ?_
    refine lxE_v hS rfl rfl (fun w hS => OpV_bin rfl rfl (b_ineq _ x_9 x_10)) rfl ?_
    refine lxE_nil hS ?_
    refine QE_then_n ?_
    refine wpC_cond rfl (fun hb_11 => ?_) (fun hb_11 => ?_)
    · have h := if_t h hb_11
      refine wpC_seq ?_
      refine wpC_region ?_
      refine wpR_v (OpV_assign rfl) rfl ?_
      refine wpR_nil ?_
      refine QE_then_n ?_
      refine wpC_ret ?_
      refine QE_blk_r ?_
      refine QE_then_r ?_
      refine QE_then_r ?_
      have h := oinr_some h hk_6
      refine QE_blk_r ?_
      refine QE_then_r ?_
      cases h
      exact QE_ret1 rfl rfl ⟨rfl, hS.pick [] (by decide) rfl⟩
    · have h := if_f h hb_11
      refine wpC_skip ?_
      refine QE_blk_n ?_
      refine QE_then_n ?_
      refine wpC_region ?_
      refine wpR_v (OpV_move rfl) rfl ?_
      refine wpR_v (OpV_bin rfl rfl (b_iadd _ x_5 1)) rfl ?_
      refine wpR_v (OpV_assign rfl) rfl ?_
      refine wpR_nil ?_
      exact QE_rnd (wpN_le _ (by exact ⟨rfl, rfl, rfl, trivial⟩) (ih_7 (wI (x_5 + 1)) _ _ ⟨rfl, hS⟩ (oinl_some h hk_6)))
  · have h := if_f h hb_12
    refine wpC_exit ?_
    refine QE_then_x ?_
    refine QE_then_x ?_
    have h := oinr_some h hk_6
    refine QE_blk_x ?_
    refine QE_then_n ?_
    refine wpC_seq ?_
    refine wpC_region ?_
    refine wpR_v (OpV_assign rfl) rfl ?_
    refine wpR_nil ?_
    refine QE_then_n ?_
    refine wpC_ret ?_
    cases h
    exact QE_ret1 rfl rfl ⟨rfl, hS.pick [] (by decide) rfl⟩

theorem c_top_Names (w0 : World)    (r : Bool)
    (h : F.top_Names  = some r) : Calls Try.prog 3 #[] w0 (Ret fun v w => v = vB r ∧ St [] w0 w []) := by
  refine calls_at 27 Try.func3 rfl rfl rfl ?_
  have hS := St.start w0
  refine wpC_le [] trivial ?_
  unfold F.top_Names at h
  refine wpC_seq ?_
  refine wpC_region ?_
  refine wpR_v (OpV_assign rfl) rfl ?_
  refine wpR_nil ?_
  refine QE_then_n ?_
  refine wpC_seq ?_
  refine wpC_region ?_
  obtain ⟨x_1, hx_1, h⟩ := obind_some h
  refine wpR_call (by kernel_rfl) rfl (c_top_numbers _    _ hx_1) rfl ?_
  rintro v_2 w hS1
  have hS := hS.call hS1
  simp only [List.cons_append, List.nil_append] at hS
  refine wpR_v (OpV_assign rfl) rfl ?_
  refine wpR_nil ?_
  refine QE_then_n ?_
  refine wpC_seq ?_
  refine wpC_region ?_
  obtain ⟨x_4, hx_4, h⟩ := obind_some h
  refine wpR_call (by kernel_rfl) rfl (c_top_wanted _    _ hx_4) rfl ?_
  rintro v_5 w hS1
  have hS := hS.call hS1
  simp only [List.cons_append, List.nil_append] at hS
  refine wpR_v (OpV_assign rfl) rfl ?_
  refine wpR_nil ?_
  refine QE_then_n ?_
  refine wpC_seq ?_
  refine wpC_seq ?_
  refine wpC_region ?_
  refine wpR_v (OpV_move rfl) rfl ?_
  refine wpR_v (OpV_len Try.underlying22 rfl (hS.ro 1 rfl)) rfl ?_
  refine wpR_v (OpV_move rfl) rfl ?_
  refine wpR_v (OpV_len Try.underlying22 rfl (hS.ro 0 rfl)) rfl ?_
  refine wpR_v (OpV_bin rfl rfl (b_ineq _ (x_1.length : Int) (x_4.length : Int))) rfl ?_
  refine wpR_nil ?_
  refine QE_then_n ?_
  refine wpC_cond rfl (fun hb_17 => ?_) (fun hb_17 => ?_)
  · have h := if_t h hb_17
    refine wpC_seq ?_
    refine wpC_region ?_
    refine wpR_v (OpV_assign rfl) rfl ?_
    refine wpR_nil ?_
    refine QE_then_n ?_
    refine wpC_ret ?_
    refine QE_then_r ?_
    cases h
    exact QE_ret1 rfl rfl ⟨rfl, hS.pick [] (by decide) rfl⟩
  · have h := if_f h hb_17
    refine wpC_skip ?_
    refine QE_then_n ?_
    refine wpC_seq ?_
    refine wpC_seq ?_
    refine wpC_region ?_
    refine wpR_v (OpV_assign rfl) rfl ?_
    refine wpR_nil ?_
    refine QE_then_n ?_
    refine wpC_block ?_
    refine wpC_le [(1, v_2), (2, v_5), (3, vI 0)] ⟨rfl, rfl, rfl, trivial⟩ ?_
    refine loop_ind (F.top_Names_L1 x_1 x_4) (fun (s : Int) L w => L = [(1, v_2), (2, v_5), (3, vI s)] ∧ St [] w0 w [own eI v_2 x_1, own eI v_5 x_4]) ?_ 0 ⟨rfl, (hS.pick [1, 0] (by decide) rfl)⟩ h
    rintro k_16 x_7 L w q_10 hI ih_9 h hk_8
    try dsimp only at hI
    obtain ⟨rfl, hS⟩ := hI
    unfold F.top_Names_L1 at h
    refine wpC_seq ?_
    refine wpC_seq ?_
    refine wpC_region ?_
    refine wpR_v (OpV_move rfl) rfl ?_
    refine wpR_v (OpV_move rfl) rfl ?_
    refine wpR_v (OpV_len Try.underlying22 rfl (hS.ro 0 rfl)) rfl ?_
    refine wpR_v (OpV_bin rfl rfl (b_ilss _ x_7 (x_1.length : Int))) rfl ?_
    refine wpR_nil ?_
    refine QE_then_n ?_
    refine wpC_cond rfl (fun hb_15 => ?_) (fun hb_15 => ?_)
    · have h := if_t h hb_15
      refine wpC_skip ?_
      refine QE_then_n ?_
      refine wpC_seq ?_
      refine wpC_block ?_
      refine wpC_seq ?_
      refine wpC_regionT (fun w' => St [] w0 w' [own eI v_2 x_1, own eI v_5 x_4]) (fun _ => true) hmix (fun _ _ _ hf => hf.2) (fun _ _ hf => hf) (by kernel_rfl) ?_
      have hS := hS.drew
      show lxE _ _ _ _ _ _ [0, 1, 2, 3, 4, 5, 6, 7, 8] _ _
      refine lxE_v hS rfl rfl (fun w hS => OpV_move rfl) rfl ?_
      refine lxE_v hS rfl rfl (fun w hS => OpV_move rfl) rfl ?_
      obtain ⟨x_11, hx_11, h⟩ := obind_some h
      refine lxE_v hS rfl rfl (fun w hS => G_ix Try.underlying22 ti3 rfl rfl (hS.ro 0 rfl) hx_11) rfl ?_
      refine lxE_v hS rfl rfl (fun w hS => G_load Try.underlying3 rfl rfl (hS.ro 0 rfl) hx_11 rfl) rfl ?_
      refine lxE_v hS rfl rfl (fun w hS => OpV_move rfl) rfl ?_
      refine lxE_v hS rfl rfl (fun w hS => OpV_move rfl) rfl ?_
      obtain ⟨x_12, hx_12, h⟩ := obind_some h
      refine lxE_v hS rfl rfl (fun w hS => G_ix Try.underlying22 ti3 rfl rfl (hS.ro 1 rfl) hx_12) rfl ?_
      refine lxE_v hS rfl rfl (fun w hS => G_load Try.underlying3 rfl rfl (hS.ro 1 rfl) hx_12 rfl) rfl ?_
      refine lxE_v hS rfl rfl (fun w hS => OpV_bin rfl rfl (b_ineq _ x_11 x_12)) rfl ?_
      refine lxE_nil hS ?_
      refine QE_then_n ?_
      refine wpC_cond rfl (fun hb_13 => ?_) (fun hb_13 => ?_)
      · have h := if_t h hb_13
        refine wpC_seq ?_
        refine wpC_region ?_
        refine wpR_v (OpV_assign rfl) rfl ?_
        refine wpR_nil ?_
        refine QE_then_n ?_
        refine wpC_ret ?_
        refine QE_blk_r ?_
        refine QE_then_r ?_
        refine QE_then_r ?_
        have h := oinr_some h hk_8
        refine QE_blk_r ?_
        refine QE_then_r ?_
        cases h
        exact QE_ret1 rfl rfl ⟨rfl, hS.pick [] (by decide) rfl⟩
      · have h := if_f h hb_13
        refine wpC_skip ?_
        refine QE_blk_n ?_
        refine QE_then_n ?_
        refine wpC_region ?_
        refine wpR_v (OpV_move rfl) rfl ?_
        refine wpR_v (OpV_bin rfl rfl (b_iadd _ x_7 1)) rfl ?_
        refine wpR_v (OpV_assign rfl) rfl ?_
        refine wpR_nil ?_
        exact QE_rnd (wpN_le _ (by exact ⟨rfl, rfl, rfl, trivial⟩) (ih_9 (wI (x_7 + 1)) _ _ ⟨rfl, hS⟩ (oinl_some h hk_8)))
    · have h := if_f h hb_15
      refine wpC_exit ?_
      refine QE_then_x ?_
      refine QE_then_x ?_
      have h := oinr_some h hk_8
      refine QE_blk_x ?_
      refine QE_then_n ?_
      refine wpC_seq ?_
      refine wpC_region ?_
      obtain ⟨x_14, hx_14, h⟩ := obind_some h
      refine wpR_call (by kernel_rfl) rfl (c_top_limits _    _ hx_14) rfl ?_
      rintro _ w ⟨rfl, hS1⟩
      have hS := hS.call hS1
      simp only [List.nil_append] at hS
      refine wpR_v (OpV_assign rfl) rfl ?_
      refine wpR_nil ?_
      refine QE_then_n ?_
      refine wpC_ret ?_
      cases h
      exact QE_ret1 rfl rfl ⟨rfl, hS.pick [] (by decide) rfl⟩
end Go.Proofs
