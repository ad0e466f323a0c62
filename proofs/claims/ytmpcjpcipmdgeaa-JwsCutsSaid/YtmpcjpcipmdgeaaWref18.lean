/- Walks: each Go function of package ref18 computes its plain function. Written by a program of ours. -/
import Derived.Test.YtmpcjpcipmdgeaaW0
import Derived.Test.YtmpcjpcipmdgeaaGkFref18
import Derived.Test.YtmpcjpcipmdgeaaWref1
set_option linter.unusedVariables false
set_option maxRecDepth 4000
namespace Go.Proofs
open Go Go.RowKit Go.Gk

theorem c_ref18_Split (w0 : World) (a0 : List UInt8)   (r : List UInt8 × List UInt8 × List UInt8 × Int)
    (h : F.ref18_Split a0 = some r) : Calls Try.prog 5 #[vS a0] w0 (Ret fun v w => v = .tuple #[vS r.1, vS r.2.1, vS r.2.2.1, vI r.2.2.2] ∧ St [] w0 w []) := by
  refine calls_at 48 Try.func5 rfl rfl rfl ?_
  have hS := St.start w0
  refine wpC_le [(0, vS a0)] ⟨rfl, trivial⟩ ?_
  unfold F.ref18_Split at h
  refine wpC_seq ?_
  refine wpC_region ?_
  refine wpR_v (OpV_assign rfl) rfl ?_
  refine wpR_v (OpV_assign rfl) rfl ?_
  refine wpR_v (OpV_assign rfl) rfl ?_
  refine wpR_v (OpV_assign rfl) rfl ?_
  refine wpR_nil ?_
  refine QE_then_n ?_
  refine wpC_seq ?_
  refine wpC_seq ?_
  refine wpC_region ?_
  refine wpR_v (OpV_move rfl) rfl ?_
  refine wpR_v (OpV_lenS Try.underlying9 rfl) rfl ?_
  refine wpR_v (OpV_bin rfl rfl (b_igtr _ (a0.length : Int) 65536)) rfl ?_
  refine wpR_nil ?_
  refine QE_then_n ?_
  refine wpC_cond rfl (fun hb_29 => ?_) (fun hb_29 => ?_)
  · have h := if_t h hb_29
    refine wpC_seq ?_
    refine wpC_region ?_
    refine wpR_v (OpV_assign rfl) rfl ?_
    refine wpR_v (OpV_assign rfl) rfl ?_
    refine wpR_v (OpV_assign rfl) rfl ?_
    refine wpR_v (OpV_assign rfl) rfl ?_
    refine wpR_nil ?_
    refine QE_then_n ?_
    refine wpC_ret ?_
    refine QE_then_r ?_
    cases h
    exact QE_ret4 rfl rfl rfl rfl rfl ⟨rfl, hS⟩
  · have h := if_f h hb_29
    refine wpC_skip ?_
    refine QE_then_n ?_
    refine wpC_seq ?_
    refine wpC_region ?_
    refine wpR_v (OpV_assign rfl) rfl ?_
    refine wpR_nil ?_
    refine QE_then_n ?_
    refine wpC_seq ?_
    refine wpC_seq ?_
    refine wpC_region ?_
    refine wpR_v (OpV_assign rfl) rfl ?_
    refine wpR_nil ?_
    refine QE_then_n ?_
    refine wpC_block ?_
    refine wpC_le [(0, vS a0), (6, .slice none 0 0), (7, vI 0)] ⟨rfl, rfl, rfl, trivial⟩ ?_
    refine loop_ind (F.ref18_Split_L1 a0) (fun (s : List Int × Int) L w => ∃ v_2 : Value, L = [(0, vS a0), (6, v_2), (7, vI s.2)] ∧ St [] w0 w [own eI v_2 s.1]) ?_ ([], 0) ⟨.slice none 0 0, rfl, (hS.nil eI)⟩ h
    rintro k_28 ⟨x_1, x_4⟩ L w q_7 hI ih_6 h hk_5
    try dsimp only at hI
    obtain ⟨v_2, rfl, hS⟩ := hI
    unfold F.ref18_Split_L1 at h
    refine wpC_seq ?_
    refine wpC_seq ?_
    refine wpC_region ?_
    refine wpR_v (OpV_move rfl) rfl ?_
    refine wpR_v (OpV_move rfl) rfl ?_
    refine wpR_v (OpV_lenS Try.underlying9 rfl) rfl ?_
    refine wpR_v (OpV_bin rfl rfl (b_ilss _ x_4 (a0.length : Int))) rfl ?_
    refine wpR_nil ?_
    refine QE_then_n ?_
    refine wpC_cond rfl (fun hb_27 => ?_) (fun hb_27 => ?_)
    · have h := if_t h hb_27
      refine wpC_skip ?_
      refine QE_then_n ?_
      refine seq_join (r := q_7) (fun (g : List Int) L w => ∃ v_9 : Value, L = [(0, vS a0), (6, v_9), (7, vI x_4)] ∧ St [] w0 w [own eI v_9 g]) (F.ref18_Split_K1 x_4) ?_ ?_
      · rintro x_8 L w hJ h
        try dsimp only at hJ
        obtain ⟨v_9, rfl, hS⟩ := hJ
        unfold F.ref18_Split_K1 at h
        refine wpC_region ?_
        refine wpR_v (OpV_move rfl) rfl ?_
        refine wpR_v (OpV_bin rfl rfl (b_iadd _ x_4 1)) rfl ?_
        refine wpR_v (OpV_assign rfl) rfl ?_
        refine wpR_nil ?_
        exact QE_rnd (wpN_le _ (by exact ⟨rfl, rfl, rfl, trivial⟩) (ih_6 (x_8, wI (x_4 + 1)) _ _ ⟨v_9, rfl, hS⟩ (oinl_some h hk_5)))
      · intro hK_11
        refine wpC_block ?_
        refine wpC_seq ?_
        refine wpC_region ?_
        refine wpR_v (OpV_move rfl) rfl ?_
        refine wpR_v (OpV_move rfl) rfl ?_
        obtain ⟨x_12, hx_12, h⟩ := obind_some h
        refine wpR_v (G_ixS Try.underlying9 rfl rfl hx_12) rfl ?_
        refine wpR_v (OpV_bin rfl rfl (b_eql8 _ x_12 46)) rfl ?_
        refine wpR_nil ?_
        refine QE_then_n ?_
        refine wpC_cond rfl (fun hb_18 => ?_) (fun hb_18 => ?_)
        · have h := if_t h hb_18
          refine wpC_region ?_
          refine wpR_v (OpV_move rfl) rfl ?_
          refine wpR_v (OpV_move rfl) rfl ?_
          refine wpR_x (OpX_lit (e := eI) (l := ([x_4] : List Int)) (vs := [vI x_4]) Try.underlying36 ti3 rfl rfl rfl rfl (by decide) (by decide) hS) rfl ?_
          rintro v_13 w hS
          obtain ⟨x_15, hx_15, h⟩ := obind_some h
          refine wpR_x (G_append Try.underlying36 ti3 rfl rfl rfl hS (i := 1) rfl (hS.ro 0 rfl) hx_15) rfl ?_
          rintro v_16 w hS
          refine wpR_v (OpV_assign rfl) rfl ?_
          refine wpR_nil ?_
          refine QE_blk_n ?_
          refine QE_then_n ?_
          exact wpC_le _ (by exact ⟨rfl, rfl, rfl, trivial⟩) (hK_11 x_15 _ _ ⟨v_16, rfl, (hS.pick [1] (by decide) rfl)⟩ h)
        · have h := if_f h hb_18
          refine wpC_skip ?_
          refine QE_blk_n ?_
          refine QE_then_n ?_
          exact wpC_le _ (by exact ⟨rfl, rfl, rfl, trivial⟩) (hK_11 x_1 _ _ ⟨v_2, rfl, hS⟩ h)
    · have h := if_f h hb_27
      refine wpC_exit ?_
      refine QE_then_x ?_
      refine QE_then_x ?_
      have h := oinr_some h hk_5
      refine QE_blk_x ?_
      refine QE_then_n ?_
      refine wpC_seq ?_
      refine wpC_seq ?_
      refine wpC_region ?_
      refine wpR_v (OpV_move rfl) rfl ?_
      refine wpR_v (OpV_len Try.underlying36 rfl (hS.ro 0 rfl)) rfl ?_
      refine wpR_v (OpV_bin rfl rfl (b_ineq _ (x_1.length : Int) 2)) rfl ?_
      refine wpR_nil ?_
      refine QE_then_n ?_
      refine wpC_cond rfl (fun hb_26 => ?_) (fun hb_26 => ?_)
      · have h := if_t h hb_26
        refine wpC_seq ?_
        refine wpC_region ?_
        refine wpR_v (OpV_assign rfl) rfl ?_
        refine wpR_v (OpV_assign rfl) rfl ?_
        refine wpR_v (OpV_assign rfl) rfl ?_
        refine wpR_v (OpV_assign rfl) rfl ?_
        refine wpR_nil ?_
        refine QE_then_n ?_
        refine wpC_ret ?_
        refine QE_then_r ?_
        cases h
        exact QE_ret4 rfl rfl rfl rfl rfl ⟨rfl, hS.pick [] (by decide) rfl⟩
      · have h := if_f h hb_26
        refine wpC_skip ?_
        refine QE_then_n ?_
        refine wpC_seq ?_
        refine wpC_regionT (fun w' => St [] w0 w' [own eI v_2 x_1]) (fun _ => true) hmix (fun _ _ _ hf => hf.2) (fun _ _ hf => hf) (by kernel_rfl) ?_
        have hS := hS.drew
        show lxE _ _ _ _ _ _ [0, 1, 2, 3, 4, 5, 6, 7, 8, 9, 10, 11, 12, 13, 14, 15, 16, 17, 18, 19, 20, 21, 22, 23] _ _
        refine lxE_v hS rfl rfl (fun w hS => OpV_move rfl) rfl ?_
        refine lxE_v hS rfl rfl (fun w hS => OpV_move rfl) rfl ?_
        obtain ⟨x_19, hx_19, h⟩ := obind_some h
        refine lxE_v hS rfl rfl (fun w hS => G_ix Try.underlying36 ti3 rfl rfl (hS.ro 0 rfl) hx_19) rfl ?_
        refine lxE_v hS rfl rfl (fun w hS => G_load Try.underlying3 rfl rfl (hS.ro 0 rfl) hx_19 rfl) rfl ?_
        obtain ⟨x_20, hx_20, h⟩ := obind_some h
        refine lxE_v hS rfl rfl (fun w hS => G_slSh Try.underlying9 rfl rfl hx_20) rfl ?_
        refine lxE_v hS rfl rfl (fun w hS => OpV_move rfl) rfl ?_
        refine lxE_v hS rfl rfl (fun w hS => OpV_move rfl) rfl ?_
        obtain ⟨x_21, hx_21, h⟩ := obind_some h
        refine lxE_v hS rfl rfl (fun w hS => G_ix Try.underlying36 ti3 rfl rfl (hS.ro 0 rfl) hx_21) rfl ?_
        refine lxE_v hS rfl rfl (fun w hS => G_load Try.underlying3 rfl rfl (hS.ro 0 rfl) hx_21 rfl) rfl ?_
        refine lxE_v hS rfl rfl (fun w hS => OpV_bin rfl rfl (b_iadd _ x_21 1)) rfl ?_
        refine lxE_v hS rfl rfl (fun w hS => OpV_move rfl) rfl ?_
        obtain ⟨x_22, hx_22, h⟩ := obind_some h
        refine lxE_v hS rfl rfl (fun w hS => G_ix Try.underlying36 ti3 rfl rfl (hS.ro 0 rfl) hx_22) rfl ?_
        refine lxE_v hS rfl rfl (fun w hS => G_load Try.underlying3 rfl rfl (hS.ro 0 rfl) hx_22 rfl) rfl ?_
        obtain ⟨x_23, hx_23, h⟩ := obind_some h
        refine lxE_v hS rfl rfl (fun w hS => G_slS Try.underlying9 rfl rfl rfl hx_23) rfl ?_
        refine lxE_v hS rfl rfl (fun w hS => OpV_move rfl) rfl ?_
        refine lxE_v hS rfl rfl (fun w hS => OpV_move rfl) rfl ?_
        obtain ⟨x_24, hx_24, h⟩ := obind_some h
        refine lxE_v hS rfl rfl (fun w hS => G_ix Try.underlying36 ti3 rfl rfl (hS.ro 0 rfl) hx_24) rfl ?_
        refine lxE_v hS rfl rfl (fun w hS => G_load Try.underlying3 rfl rfl (hS.ro 0 rfl) hx_24 rfl) rfl ?_
        refine lxE_v hS rfl rfl (fun w hS => OpV_bin rfl rfl (b_iadd _ x_24 1)) rfl ?_
        obtain ⟨x_25, hx_25, h⟩ := obind_some h
        refine lxE_v hS rfl rfl (fun w hS => G_slSl Try.underlying9 rfl rfl hx_25) rfl ?_
        refine lxE_v hS rfl rfl (fun w hS => OpV_assign rfl) rfl ?_
        refine lxE_v hS rfl rfl (fun w hS => OpV_assign rfl) rfl ?_
        refine lxE_v hS rfl rfl (fun w hS => OpV_assign rfl) rfl ?_
        refine lxE_v hS rfl rfl (fun w hS => OpV_assign rfl) rfl ?_
        refine lxE_nil hS ?_
        refine QE_then_n ?_
        refine wpC_ret ?_
        cases h
        exact QE_ret4 rfl rfl rfl rfl rfl ⟨rfl, hS.pick [] (by decide) rfl⟩

theorem c_ref18_Decode (w0 : World) (a0 : List UInt8)   (r : List UInt8 × List UInt8 × List UInt8 × Int)
    (h : F.ref18_Decode a0 = some r) : Calls Try.prog 7 #[vS a0] w0 (Ret fun v w => ∃ u0 u1 u2 : Value, v = .tuple #[u0, u1, u2, vI r.2.2.2] ∧ St [] w0 w [own e8 u0 r.1, own e8 u1 r.2.1, own e8 u2 r.2.2.1]) := by
  refine calls_at 56 Try.func7 rfl rfl rfl ?_
  have hS := St.start w0
  refine wpC_le [(0, vS a0)] ⟨rfl, trivial⟩ ?_
  unfold F.ref18_Decode at h
  refine wpC_seq ?_
  refine wpC_region ?_
  refine wpR_v (OpV_assign rfl) rfl ?_
  refine wpR_v (OpV_assign rfl) rfl ?_
  refine wpR_v (OpV_assign rfl) rfl ?_
  refine wpR_v (OpV_assign rfl) rfl ?_
  refine wpR_nil ?_
  refine QE_then_n ?_
  refine wpC_seq ?_
  refine wpC_region ?_
  refine wpR_v (OpV_move rfl) rfl ?_
  obtain ⟨x_1, hx_1, h⟩ := obind_some h
  refine wpR_call (by kernel_rfl) rfl (c_ref18_Split _ a0   _ hx_1) rfl ?_
  rintro _ w ⟨rfl, hS1⟩
  have hS := hS.call hS1
  simp only [List.nil_append] at hS
  refine wpR_v (OpV_move rfl) rfl ?_
  refine wpR_v (OpV_extract rfl rfl) rfl ?_
  refine wpR_v (OpV_extract rfl rfl) rfl ?_
  refine wpR_v (OpV_extract rfl rfl) rfl ?_
  refine wpR_v (OpV_extract rfl rfl) rfl ?_
  refine wpR_v (OpV_assign rfl) rfl ?_
  refine wpR_v (OpV_assign rfl) rfl ?_
  refine wpR_v (OpV_assign rfl) rfl ?_
  refine wpR_v (OpV_assign rfl) rfl ?_
  refine wpR_nil ?_
  refine QE_then_n ?_
  refine wpC_seq ?_
  refine wpC_seq ?_
  refine wpC_region ?_
  refine wpR_v (OpV_move rfl) rfl ?_
  refine wpR_v (OpV_bin rfl rfl (b_ineq _ x_1.2.2.2 0)) rfl ?_
  refine wpR_nil ?_
  refine QE_then_n ?_
  refine wpC_cond rfl (fun hb_14 => ?_) (fun hb_14 => ?_)
  · have h := if_t h hb_14
    refine wpC_seq ?_
    refine wpC_region ?_
    refine wpR_v (OpV_move rfl) rfl ?_
    refine wpR_v (OpV_assign rfl) rfl ?_
    refine wpR_v (OpV_assign rfl) rfl ?_
    refine wpR_v (OpV_assign rfl) rfl ?_
    refine wpR_v (OpV_assign rfl) rfl ?_
    refine wpR_nil ?_
    refine QE_then_n ?_
    refine wpC_ret ?_
    refine QE_then_r ?_
    cases h
    exact QE_ret4 rfl rfl rfl rfl rfl ⟨.slice none 0 0, .slice none 0 0, .slice none 0 0, rfl, (((hS.nil e8).nil e8).nil e8).pick [2, 1, 0] (by decide) rfl⟩
  · have h := if_f h hb_14
    refine wpC_skip ?_
    refine QE_then_n ?_
    refine wpC_seq ?_
    refine wpC_region ?_
    refine wpR_v (OpV_move rfl) rfl ?_
    obtain ⟨x_2, hx_2, h⟩ := obind_some h
    refine wpR_call (by kernel_rfl) rfl (c_ref1_Decode _ x_1.1   _ hx_2) rfl ?_
    rintro _ w ⟨v_3, rfl, hS1⟩
    have hS := hS.call hS1
    simp only [List.cons_append, List.nil_append] at hS
    refine wpR_v (OpV_move rfl) rfl ?_
    refine wpR_v (OpV_extract rfl rfl) rfl ?_
    refine wpR_v (OpV_extract rfl rfl) rfl ?_
    refine wpR_v (OpV_extract rfl rfl) rfl ?_
    refine wpR_v (OpV_assign rfl) rfl ?_
    refine wpR_v (OpV_assign rfl) rfl ?_
    refine wpR_v (OpV_assign rfl) rfl ?_
    refine wpR_nil ?_
    refine QE_then_n ?_
    refine wpC_seq ?_
    refine wpC_seq ?_
    refine wpC_region ?_
    refine wpR_v (OpV_move rfl) rfl ?_
    refine wpR_v (OpV_bin rfl rfl (b_ineq _ x_2.2.1 0)) rfl ?_
    refine wpR_nil ?_
    refine QE_then_n ?_
    refine wpC_cond rfl (fun hb_13 => ?_) (fun hb_13 => ?_)
    · have h := if_t h hb_13
      refine wpC_seq ?_
      refine wpC_region ?_
      refine wpR_v (OpV_move rfl) rfl ?_
      refine wpR_v (OpV_assign rfl) rfl ?_
      refine wpR_v (OpV_assign rfl) rfl ?_
      refine wpR_v (OpV_assign rfl) rfl ?_
      refine wpR_v (OpV_assign rfl) rfl ?_
      refine wpR_nil ?_
      refine QE_then_n ?_
      refine wpC_ret ?_
      refine QE_then_r ?_
      cases h
      exact QE_ret4 rfl rfl rfl rfl rfl ⟨.slice none 0 0, .slice none 0 0, .slice none 0 0, rfl, (((hS.nil e8).nil e8).nil e8).pick [2, 1, 0] (by decide) rfl⟩
    · have h := if_f h hb_13
      refine wpC_skip ?_
      refine QE_then_n ?_
      refine wpC_seq ?_
      refine wpC_region ?_
      refine wpR_v (OpV_move rfl) rfl ?_
      obtain ⟨x_5, hx_5, h⟩ := obind_some h
      refine wpR_call (by kernel_rfl) rfl (c_ref1_Decode _ x_1.2.1   _ hx_5) rfl ?_
      rintro _ w ⟨v_6, rfl, hS1⟩
      have hS := hS.call hS1
      simp only [List.cons_append, List.nil_append] at hS
      refine wpR_v (OpV_move rfl) rfl ?_
      refine wpR_v (OpV_extract rfl rfl) rfl ?_
      refine wpR_v (OpV_extract rfl rfl) rfl ?_
      refine wpR_v (OpV_extract rfl rfl) rfl ?_
      refine wpR_v (OpV_assign rfl) rfl ?_
      refine wpR_v (OpV_assign rfl) rfl ?_
      refine wpR_v (OpV_assign rfl) rfl ?_
      refine wpR_nil ?_
      refine QE_then_n ?_
      refine wpC_seq ?_
      refine wpC_seq ?_
      refine wpC_region ?_
      refine wpR_v (OpV_move rfl) rfl ?_
      refine wpR_v (OpV_bin rfl rfl (b_ineq _ x_5.2.1 0)) rfl ?_
      refine wpR_nil ?_
      refine QE_then_n ?_
      refine wpC_cond rfl (fun hb_12 => ?_) (fun hb_12 => ?_)
      · have h := if_t h hb_12
        refine wpC_seq ?_
        refine wpC_region ?_
        refine wpR_v (OpV_move rfl) rfl ?_
        refine wpR_v (OpV_assign rfl) rfl ?_
        refine wpR_v (OpV_assign rfl) rfl ?_
        refine wpR_v (OpV_assign rfl) rfl ?_
        refine wpR_v (OpV_assign rfl) rfl ?_
        refine wpR_nil ?_
        refine QE_then_n ?_
        refine wpC_ret ?_
        refine QE_then_r ?_
        cases h
        exact QE_ret4 rfl rfl rfl rfl rfl ⟨.slice none 0 0, .slice none 0 0, .slice none 0 0, rfl, (((hS.nil e8).nil e8).nil e8).pick [2, 1, 0] (by decide) rfl⟩
      · have h := if_f h hb_12
        refine wpC_skip ?_
        refine QE_then_n ?_
        refine wpC_seq ?_
        refine wpC_region ?_
        refine wpR_v (OpV_move rfl) rfl ?_
        obtain ⟨x_8, hx_8, h⟩ := obind_some h
        refine wpR_call (by kernel_rfl) rfl (c_ref1_Decode _ x_1.2.2.1   _ hx_8) rfl ?_
        rintro _ w ⟨v_9, rfl, hS1⟩
        have hS := hS.call hS1
        simp only [List.cons_append, List.nil_append] at hS
        refine wpR_v (OpV_move rfl) rfl ?_
        refine wpR_v (OpV_extract rfl rfl) rfl ?_
        refine wpR_v (OpV_extract rfl rfl) rfl ?_
        refine wpR_v (OpV_extract rfl rfl) rfl ?_
        refine wpR_v (OpV_assign rfl) rfl ?_
        refine wpR_v (OpV_assign rfl) rfl ?_
        refine wpR_v (OpV_assign rfl) rfl ?_
        refine wpR_nil ?_
        refine QE_then_n ?_
        refine wpC_seq ?_
        refine wpC_seq ?_
        refine wpC_region ?_
        refine wpR_v (OpV_move rfl) rfl ?_
        refine wpR_v (OpV_bin rfl rfl (b_ineq _ x_8.2.1 0)) rfl ?_
        refine wpR_nil ?_
        refine QE_then_n ?_
        refine wpC_cond rfl (fun hb_11 => ?_) (fun hb_11 => ?_)
        · have h := if_t h hb_11
          refine wpC_seq ?_
          refine wpC_region ?_
          refine wpR_v (OpV_move rfl) rfl ?_
          refine wpR_v (OpV_assign rfl) rfl ?_
          refine wpR_v (OpV_assign rfl) rfl ?_
          refine wpR_v (OpV_assign rfl) rfl ?_
          refine wpR_v (OpV_assign rfl) rfl ?_
          refine wpR_nil ?_
          refine QE_then_n ?_
          refine wpC_ret ?_
          refine QE_then_r ?_
          cases h
          exact QE_ret4 rfl rfl rfl rfl rfl ⟨.slice none 0 0, .slice none 0 0, .slice none 0 0, rfl, (((hS.nil e8).nil e8).nil e8).pick [2, 1, 0] (by decide) rfl⟩
        · have h := if_f h hb_11
          refine wpC_skip ?_
          refine QE_then_n ?_
          refine wpC_seq ?_
          refine wpC_region ?_
          refine wpR_v (OpV_move rfl) rfl ?_
          refine wpR_v (OpV_move rfl) rfl ?_
          refine wpR_v (OpV_move rfl) rfl ?_
          refine wpR_v (OpV_assign rfl) rfl ?_
          refine wpR_v (OpV_assign rfl) rfl ?_
          refine wpR_v (OpV_assign rfl) rfl ?_
          refine wpR_v (OpV_assign rfl) rfl ?_
          refine wpR_nil ?_
          refine QE_then_n ?_
          refine wpC_ret ?_
          cases h
          exact QE_ret4 rfl rfl rfl rfl rfl ⟨v_3, v_6, v_9, rfl, hS.pick [2, 1, 0] (by decide) rfl⟩

theorem c_ref18_Compact (w0 : World) (a0 : List UInt8) (a1 : List UInt8) (a2 : List UInt8) (va0 : Value) (va1 : Value) (va2 : Value) (ha0 : RP [] w0 e8 va0 a0) (ha1 : RP [] w0 e8 va1 a1) (ha2 : RP [] w0 e8 va2 a2) (r : List UInt8 × Int)
    (h : F.ref18_Compact a0 a1 a2 = some r) : Calls Try.prog 11 #[va0, va1, va2] w0 (Ret fun v w => v = .tuple #[vS r.1, vI r.2] ∧ St [] w0 w []) := by
  refine calls_at 36 Try.func11 rfl rfl rfl ?_
  have hS := St.start w0
  refine wpC_le [(0, va0), (1, va1), (2, va2)] ⟨rfl, rfl, rfl, trivial⟩ ?_
  unfold F.ref18_Compact at h
  refine wpC_seq ?_
  refine wpC_region ?_
  refine wpR_v (OpV_assign rfl) rfl ?_
  refine wpR_v (OpV_assign rfl) rfl ?_
  refine wpR_nil ?_
  refine QE_then_n ?_
  refine wpC_seq ?_
  refine seq_join (r := r) (fun (g : Bool) L w => L = [(0, va0), (1, va1), (2, va2), (21, vB g)] ∧ St [] w0 w []) (F.ref18_Compact_K1 a0 a1 a2) ?_ ?_
  · rintro x_1 L w hJ h
    try dsimp only at hJ
    obtain ⟨rfl, hS⟩ := hJ
    unfold F.ref18_Compact_K1 at h
    refine wpC_cond rfl (fun hb_11 => ?_) (fun hb_11 => ?_)
    · have h := if_t h hb_11
      refine wpC_seq ?_
      refine wpC_region ?_
      refine wpR_v (OpV_assign rfl) rfl ?_
      refine wpR_v (OpV_assign rfl) rfl ?_
      refine wpR_nil ?_
      refine QE_then_n ?_
      refine wpC_ret ?_
      refine QE_then_r ?_
      cases h
      exact QE_ret2 rfl rfl rfl ⟨rfl, hS⟩
    · have h := if_f h hb_11
      refine wpC_skip ?_
      refine QE_then_n ?_
      refine wpC_seq ?_
      refine wpC_region ?_
      refine wpR_v (OpV_move rfl) rfl ?_
      obtain ⟨x_3, hx_3, h⟩ := obind_some h
      refine wpR_call (by kernel_rfl) rfl (c_ref1_Encode _ a0 va0 (ha0.now hS.fr).rp _ hx_3) rfl ?_
      rintro _ w ⟨rfl, hS1⟩
      have hS := hS.call hS1
      simp only [List.nil_append] at hS
      obtain ⟨x_4, hx_4, h⟩ := obind_some h
      refine wpR_v (OpV_bin rfl rfl (G_sadd _ hx_4)) rfl ?_
      refine wpR_v (OpV_move rfl) rfl ?_
      obtain ⟨x_5, hx_5, h⟩ := obind_some h
      refine wpR_call (by kernel_rfl) rfl (c_ref1_Encode _ a1 va1 (ha1.now hS.fr).rp _ hx_5) rfl ?_
      rintro _ w ⟨rfl, hS1⟩
      have hS := hS.call hS1
      simp only [List.nil_append] at hS
      obtain ⟨x_6, hx_6, h⟩ := obind_some h
      refine wpR_v (OpV_bin rfl rfl (G_sadd _ hx_6)) rfl ?_
      obtain ⟨x_7, hx_7, h⟩ := obind_some h
      refine wpR_v (OpV_bin rfl rfl (G_sadd _ hx_7)) rfl ?_
      refine wpR_v (OpV_move rfl) rfl ?_
      obtain ⟨x_8, hx_8, h⟩ := obind_some h
      refine wpR_call (by kernel_rfl) rfl (c_ref1_Encode _ a2 va2 (ha2.now hS.fr).rp _ hx_8) rfl ?_
      rintro _ w ⟨rfl, hS1⟩
      have hS := hS.call hS1
      simp only [List.nil_append] at hS
      obtain ⟨x_9, hx_9, h⟩ := obind_some h
      refine wpR_v (OpV_bin rfl rfl (G_sadd _ hx_9)) rfl ?_
      refine wpR_v (OpV_assign rfl) rfl ?_
      refine wpR_nil ?_
      refine QE_then_n ?_
      refine wpC_seq ?_
      refine wpC_seq ?_
      refine wpC_region ?_
      refine wpR_v (OpV_move rfl) rfl ?_
      refine wpR_v (OpV_lenS Try.underlying9 rfl) rfl ?_
      refine wpR_v (OpV_bin rfl rfl (b_igtr _ (x_9.length : Int) 65536)) rfl ?_
      refine wpR_nil ?_
      refine QE_then_n ?_
      refine wpC_cond rfl (fun hb_10 => ?_) (fun hb_10 => ?_)
      · have h := if_t h hb_10
        refine wpC_seq ?_
        refine wpC_region ?_
        refine wpR_v (OpV_assign rfl) rfl ?_
        refine wpR_v (OpV_assign rfl) rfl ?_
        refine wpR_nil ?_
        refine QE_then_n ?_
        refine wpC_ret ?_
        refine QE_then_r ?_
        cases h
        exact QE_ret2 rfl rfl rfl ⟨rfl, hS⟩
      · have h := if_f h hb_10
        refine wpC_skip ?_
        refine QE_then_n ?_
        refine wpC_seq ?_
        refine wpC_region ?_
        refine wpR_v (OpV_move rfl) rfl ?_
        refine wpR_v (OpV_assign rfl) rfl ?_
        refine wpR_v (OpV_assign rfl) rfl ?_
        refine wpR_nil ?_
        refine QE_then_n ?_
        refine wpC_ret ?_
        cases h
        exact QE_ret2 rfl rfl rfl ⟨rfl, hS⟩
  · intro hK_2
    refine wpC_region ?_
    refine wpR_v (OpV_move rfl) rfl ?_
    refine wpR_v (OpV_len Try.underlying22 rfl (ha0.now hS.fr)) rfl ?_
    refine wpR_v (OpV_bin rfl rfl (b_igtr _ (a0.length : Int) 65536)) rfl ?_
    refine wpR_v (OpV_move rfl) rfl ?_
    cases hb_12 : (decide ((65536 : Int) < (a0.length : Int)))
    case true =>
      have h := if_t h hb_12
      try simp only [hb_12]
      refine wpR_gskip (b := true) (t := 12) rfl rfl rfl rfl ?_
      refine wpR_gskip (b := true) (t := 12) rfl rfl rfl rfl ?_
      refine wpR_gskip (b := true) (t := 12) rfl rfl rfl rfl ?_
      refine wpR_v (OpV_pickT rfl rfl) rfl ?_
      refine wpR_v (OpV_move rfl) rfl ?_
      refine wpR_gskip (b := true) (t := 17) rfl rfl rfl rfl ?_
      refine wpR_gskip (b := true) (t := 17) rfl rfl rfl rfl ?_
      refine wpR_gskip (b := true) (t := 17) rfl rfl rfl rfl ?_
      refine wpR_v (OpV_pickT rfl rfl) rfl ?_
      refine wpR_nil ?_
      refine QE_then_n ?_
      exact wpC_le _ (by exact ⟨rfl, rfl, rfl, rfl, trivial⟩) (hK_2 true _ _ ⟨rfl, hS⟩ h)
    case false =>
      have h := if_f h hb_12
      try simp only [hb_12]
      refine wpR_gv (t := 12) rfl rfl (OpV_move rfl) rfl ?_
      refine wpR_gv (t := 12) rfl rfl (OpV_len Try.underlying22 rfl (ha1.now hS.fr)) rfl ?_
      refine wpR_gv (t := 12) rfl rfl (OpV_bin rfl rfl (b_igtr _ (a1.length : Int) 65536)) rfl ?_
      refine wpR_v (OpV_pickF rfl rfl) rfl ?_
      refine wpR_v (OpV_move rfl) rfl ?_
      cases hb_13 : (decide ((65536 : Int) < (a1.length : Int)))
      case true =>
        have h := if_t h hb_13
        try simp only [hb_13]
        refine wpR_gskip (b := true) (t := 17) rfl rfl rfl rfl ?_
        refine wpR_gskip (b := true) (t := 17) rfl rfl rfl rfl ?_
        refine wpR_gskip (b := true) (t := 17) rfl rfl rfl rfl ?_
        refine wpR_v (OpV_pickT rfl rfl) rfl ?_
        refine wpR_nil ?_
        refine QE_then_n ?_
        exact wpC_le _ (by exact ⟨rfl, rfl, rfl, rfl, trivial⟩) (hK_2 true _ _ ⟨rfl, hS⟩ h)
      case false =>
        have h := if_f h hb_13
        try simp only [hb_13]
        refine wpR_gv (t := 17) rfl rfl (OpV_move rfl) rfl ?_
        refine wpR_gv (t := 17) rfl rfl (OpV_len Try.underlying22 rfl (ha2.now hS.fr)) rfl ?_
        refine wpR_gv (t := 17) rfl rfl (OpV_bin rfl rfl (b_igtr _ (a2.length : Int) 65536)) rfl ?_
        refine wpR_v (OpV_pickF rfl rfl) rfl ?_
        refine wpR_nil ?_
        refine QE_then_n ?_
        exact wpC_le _ (by exact ⟨rfl, rfl, rfl, rfl, trivial⟩) (hK_2 (decide ((65536 : Int) < (a2.length : Int))) _ _ ⟨rfl, hS⟩ h)
end Go.Proofs
