/- Walks: each Go function of package ref1 computes its plain function. Written by a program of ours. -/
import Derived.Test.YtmpcjpcipmdgeaaW0
import Derived.Test.YtmpcjpcipmdgeaaGkFref1
set_option linter.unusedVariables false
set_option maxRecDepth 4000
namespace Go.Proofs
open Go Go.RowKit Go.Gk

theorem c_ref1_signs (w0 : World) (a0 : Bool)   (r : List UInt8)
    (h : F.ref1_signs a0 = some r) : Calls Try.prog 32 #[vB a0] w0 (Ret fun v w => v = vS r ∧ St [] w0 w []) := by
  refine calls_at 9 Try.func32 rfl rfl rfl ?_
  have hS := St.start w0
  refine wpC_le [(0, vB a0)] ⟨rfl, trivial⟩ ?_
  unfold F.ref1_signs at h
  refine wpC_seq ?_
  refine wpC_region ?_
  refine wpR_v (OpV_assign rfl) rfl ?_
  refine wpR_nil ?_
  refine QE_then_n ?_
  refine wpC_seq ?_
  refine wpC_region ?_
  refine wpR_v (OpV_assign rfl) rfl ?_
  refine wpR_nil ?_
  refine QE_then_n ?_
  refine wpC_seq ?_
  refine wpC_seq ?_
  refine wpC_region ?_
  refine wpR_v (OpV_move rfl) rfl ?_
  refine wpR_nil ?_
  refine QE_then_n ?_
  refine wpC_cond rfl (fun hb_3 => ?_) (fun hb_3 => ?_)
  · have h := if_t h hb_3
    refine wpC_seq ?_
    refine wpC_region ?_
    refine wpR_v (OpV_move rfl) rfl ?_
    obtain ⟨x_1, hx_1, h⟩ := obind_some h
    refine wpR_v (OpV_bin rfl rfl (G_sadd _ hx_1)) rfl ?_
    refine wpR_v (OpV_assign rfl) rfl ?_
    refine wpR_nil ?_
    refine QE_then_n ?_
    refine wpC_ret ?_
    refine QE_then_r ?_
    cases h
    exact QE_ret1 rfl rfl ⟨rfl, hS⟩
  · have h := if_f h hb_3
    refine wpC_skip ?_
    refine QE_then_n ?_
    refine wpC_seq ?_
    refine wpC_region ?_
    refine wpR_v (OpV_move rfl) rfl ?_
    obtain ⟨x_2, hx_2, h⟩ := obind_some h
    refine wpR_v (OpV_bin rfl rfl (G_sadd _ hx_2)) rfl ?_
    refine wpR_v (OpV_assign rfl) rfl ?_
    refine wpR_nil ?_
    refine QE_then_n ?_
    refine wpC_ret ?_
    cases h
    exact QE_ret1 rfl rfl ⟨rfl, hS⟩

theorem c_ref1_number (w0 : World) (a0 : UInt8) (a1 : Bool)   (r : Int)
    (h : F.ref1_number a0 a1 = some r) : Calls Try.prog 25 #[v8 a0, vB a1] w0 (Ret fun v w => v = vI r ∧ St [] w0 w []) := by
  refine calls_at 21 Try.func25 rfl rfl rfl ?_
  have hS := St.start w0
  refine wpC_le [(0, v8 a0), (1, vB a1)] ⟨rfl, rfl, trivial⟩ ?_
  unfold F.ref1_number at h
  refine wpC_seq ?_
  refine wpC_region ?_
  refine wpR_v (OpV_assign rfl) rfl ?_
  refine wpR_nil ?_
  refine QE_then_n ?_
  refine wpC_seq ?_
  refine wpC_region ?_
  refine wpR_v (OpV_move rfl) rfl ?_
  obtain ⟨x_1, hx_1, h⟩ := obind_some h
  refine wpR_call (by kernel_rfl) rfl (c_ref1_signs _ a1   _ hx_1) rfl ?_
  rintro _ w ⟨rfl, hS1⟩
  have hS := hS.call hS1
  simp only [List.nil_append] at hS
  refine wpR_v (OpV_assign rfl) rfl ?_
  refine wpR_nil ?_
  refine QE_then_n ?_
  refine wpC_seq ?_
  refine wpC_seq ?_
  refine wpC_region ?_
  refine wpR_v (OpV_assign rfl) rfl ?_
  refine wpR_nil ?_
  refine QE_then_n ?_
  refine wpC_block ?_
  refine wpC_le [(0, v8 a0), (5, vS x_1), (6, vI 0)] ⟨rfl, rfl, rfl, trivial⟩ ?_
  refine loop_ind (F.ref1_number_L1 a0 x_1) (fun (s : Int) L w => L = [(0, v8 a0), (5, vS x_1), (6, vI s)] ∧ St [] w0 w []) ?_ 0 ⟨rfl, hS⟩ h
  rintro k_9 x_2 L w q_5 hI ih_4 h hk_3
  try dsimp only at hI
  obtain ⟨rfl, hS⟩ := hI
  unfold F.ref1_number_L1 at h
  refine wpC_seq ?_
  refine wpC_seq ?_
  refine wpC_region ?_
  refine wpR_v (OpV_move rfl) rfl ?_
  refine wpR_v (OpV_move rfl) rfl ?_
  refine wpR_v (OpV_lenS Try.underlying9 rfl) rfl ?_
  refine wpR_v (OpV_bin rfl rfl (b_ilss _ x_2 (x_1.length : Int))) rfl ?_
  refine wpR_nil ?_
  refine QE_then_n ?_
  refine wpC_cond rfl (fun hb_8 => ?_) (fun hb_8 => ?_)
  · have h := if_t h hb_8
    refine wpC_skip ?_
    refine QE_then_n ?_
    refine wpC_seq ?_
    refine wpC_block ?_
    refine wpC_seq ?_
    refine wpC_region ?_
    refine wpR_v (OpV_move rfl) rfl ?_
    refine wpR_v (OpV_move rfl) rfl ?_
    obtain ⟨x_6, hx_6, h⟩ := obind_some h
    refine wpR_v (G_ixS Try.underlying9 rfl rfl hx_6) rfl ?_
    refine wpR_v (OpV_move rfl) rfl ?_
    refine wpR_v (OpV_bin rfl rfl (b_eql8 _ x_6 a0)) rfl ?_
    refine wpR_nil ?_
    refine QE_then_n ?_
    refine wpC_cond rfl (fun hb_7 => ?_) (fun hb_7 => ?_)
    · have h := if_t h hb_7
      refine wpC_seq ?_
      refine wpC_region ?_
      refine wpR_v (OpV_move rfl) rfl ?_
      refine wpR_v (OpV_assign rfl) rfl ?_
      refine wpR_nil ?_
      refine QE_then_n ?_
      refine wpC_ret ?_
      refine QE_blk_r ?_
      refine QE_then_r ?_
      refine QE_then_r ?_
      have h := oinr_some h hk_3
      refine QE_blk_r ?_
      refine QE_then_r ?_
      cases h
      exact QE_ret1 rfl rfl ⟨rfl, hS⟩
    · have h := if_f h hb_7
      refine wpC_skip ?_
      refine QE_blk_n ?_
      refine QE_then_n ?_
      refine wpC_region ?_
      refine wpR_v (OpV_move rfl) rfl ?_
      refine wpR_v (OpV_bin rfl rfl (b_iadd _ x_2 1)) rfl ?_
      refine wpR_v (OpV_assign rfl) rfl ?_
      refine wpR_nil ?_
      exact QE_rnd (wpN_le _ (by exact ⟨rfl, rfl, rfl, trivial⟩) (ih_4 (wI (x_2 + 1)) _ _ ⟨rfl, hS⟩ (oinl_some h hk_3)))
  · have h := if_f h hb_8
    refine wpC_exit ?_
    refine QE_then_x ?_
    refine QE_then_x ?_
    have h := oinr_some h hk_3
    refine QE_blk_x ?_
    refine QE_then_n ?_
    refine wpC_seq ?_
    refine wpC_region ?_
    refine wpR_v (OpV_assign rfl) rfl ?_
    refine wpR_nil ?_
    refine QE_then_n ?_
    refine wpC_ret ?_
    cases h
    exact QE_ret1 rfl rfl ⟨rfl, hS⟩

theorem c_ref1_read (w0 : World) (a0 : List UInt8) (a1 : Bool)   (r : List UInt8 × Bool)
    (h : F.ref1_read a0 a1 = some r) : Calls Try.prog 26 #[vS a0, vB a1] w0 (Ret fun v w => ∃ u0 : Value, v = .tuple #[u0, vB r.2] ∧ St [] w0 w [own e8 u0 r.1]) := by
  refine calls_at 58 Try.func26 rfl rfl rfl ?_
  have hS := St.start w0
  refine wpC_le [(0, vS a0), (1, vB a1)] ⟨rfl, rfl, trivial⟩ ?_
  unfold F.ref1_read at h
  refine wpC_seq ?_
  refine wpC_region ?_
  refine wpR_v (OpV_assign rfl) rfl ?_
  refine wpR_v (OpV_assign rfl) rfl ?_
  refine wpR_nil ?_
  refine QE_then_n ?_
  refine wpC_seq ?_
  refine wpC_region ?_
  refine wpR_v (OpV_move rfl) rfl ?_
  refine wpR_v (OpV_lenS Try.underlying9 rfl) rfl ?_
  refine wpR_v (OpV_bin rfl rfl (b_imul _ (a0.length : Int) 6)) rfl ?_
  refine wpR_v (OpV_bin rfl rfl (b_iquo _ (wI ((a0.length : Int) * 6)) 8 (by decide))) rfl ?_
  obtain ⟨x_1, hx_1, h⟩ := obind_some h
  refine wpR_x (G_make (e := e8) Try.underlying22 ti5 rfl rfl rfl hS hx_1) rfl ?_
  rintro v_2 w hS
  refine wpR_v (OpV_assign rfl) rfl ?_
  refine wpR_nil ?_
  refine QE_then_n ?_
  refine wpC_seq ?_
  refine wpC_seq ?_
  refine wpC_region ?_
  refine wpR_v (OpV_assign rfl) rfl ?_
  refine wpR_nil ?_
  refine QE_then_n ?_
  refine wpC_block ?_
  refine wpC_le [(0, vS a0), (1, vB a1), (6, v_2), (7, vI 0)] ⟨rfl, rfl, rfl, rfl, trivial⟩ ?_
  refine loop_ind (F.ref1_read_L1 a0 a1) (fun (s : Int × List UInt8) L w => L = [(0, vS a0), (1, vB a1), (6, v_2), (7, vI s.1)] ∧ St [] w0 w [own e8 v_2 s.2]) ?_ (0, x_1) ⟨rfl, hS⟩ h
  rintro k_20 ⟨x_4, x_5⟩ L w q_8 hI ih_7 h hk_6
  try dsimp only at hI
  obtain ⟨rfl, hS⟩ := hI
  unfold F.ref1_read_L1 at h
  refine wpC_seq ?_
  refine wpC_seq ?_
  refine wpC_region ?_
  refine wpR_v (OpV_move rfl) rfl ?_
  refine wpR_v (OpV_move rfl) rfl ?_
  refine wpR_v (OpV_lenS Try.underlying9 rfl) rfl ?_
  refine wpR_v (OpV_bin rfl rfl (b_imul _ 6 (a0.length : Int))) rfl ?_
  refine wpR_v (OpV_bin rfl rfl (b_ilss _ x_4 (wI (6 * (a0.length : Int))))) rfl ?_
  refine wpR_nil ?_
  refine QE_then_n ?_
  refine wpC_cond rfl (fun hb_19 => ?_) (fun hb_19 => ?_)
  · have h := if_t h hb_19
    refine wpC_skip ?_
    refine QE_then_n ?_
    refine seq_join (r := q_8) (fun (g : List UInt8) L w => L = [(0, vS a0), (1, vB a1), (6, v_2), (7, vI x_4)] ∧ St [] w0 w [own e8 v_2 g]) (F.ref1_read_K1 x_4) ?_ ?_
    · rintro x_9 L w hJ h
      try dsimp only at hJ
      obtain ⟨rfl, hS⟩ := hJ
      unfold F.ref1_read_K1 at h
      refine wpC_region ?_
      refine wpR_v (OpV_move rfl) rfl ?_
      refine wpR_v (OpV_bin rfl rfl (b_iadd _ x_4 1)) rfl ?_
      refine wpR_v (OpV_assign rfl) rfl ?_
      refine wpR_nil ?_
      exact QE_rnd (wpN_le _ (by exact ⟨rfl, rfl, rfl, rfl, trivial⟩) (ih_7 (wI (x_4 + 1), x_9) _ _ ⟨rfl, hS⟩ (oinl_some h hk_6)))
    · intro hK_10
      refine wpC_block ?_
      refine wpC_seq ?_
      refine wpC_region ?_
      refine wpR_v (OpV_move rfl) rfl ?_
      refine wpR_v (OpV_move rfl) rfl ?_
      refine wpR_v (OpV_bin rfl rfl (b_iquo _ x_4 6 (by decide))) rfl ?_
      obtain ⟨x_11, hx_11, h⟩ := obind_some h
      refine wpR_v (G_ixS Try.underlying9 rfl rfl hx_11) rfl ?_
      refine wpR_v (OpV_move rfl) rfl ?_
      obtain ⟨x_12, hx_12, h⟩ := obind_some h
      refine wpR_call (by kernel_rfl) rfl (c_ref1_number _ x_11 a1   _ hx_12) rfl ?_
      rintro _ w ⟨rfl, hS1⟩
      have hS := hS.call hS1
      simp only [List.nil_append] at hS
      refine wpR_v (OpV_move rfl) rfl ?_
      refine wpR_v (OpV_bin rfl rfl (b_irem _ x_4 6 (by decide))) rfl ?_
      refine wpR_v (OpV_bin rfl rfl (b_isub _ 5 (Int.tmod x_4 6))) rfl ?_
      refine wpR_v (OpV_conv rfl (cv_i_64 Try.underlying3 Try.underlying50 (wI (5 - (Int.tmod x_4 6))))) rfl ?_
      refine wpR_v (OpV_bin rfl rfl (b_ishr64 _ x_12 (UInt64.ofInt (wI (5 - (Int.tmod x_4 6)))))) rfl ?_
      refine wpR_v (OpV_bin rfl rfl (b_iand _ (iShr x_12 ((UInt64.ofInt (wI (5 - (Int.tmod x_4 6)))).toNat)) 1)) rfl ?_
      obtain ⟨x_13, hx_13, h⟩ := olet_some h
      refine wpR_v (OpV_assign (v := vI x_13) (by rw [← hx_13]; rfl)) rfl ?_
      refine wpR_nil ?_
      refine QE_then_n ?_
      refine wpC_seq ?_
      refine wpC_region ?_
      refine wpR_v (OpV_move rfl) rfl ?_
      refine wpR_v (OpV_bin rfl rfl (b_iquo _ x_4 8 (by decide))) rfl ?_
      refine wpR_v (OpV_move rfl) rfl ?_
      refine wpR_v (OpV_len Try.underlying22 rfl (hS.ro 0 rfl)) rfl ?_
      refine wpR_v (OpV_bin rfl rfl (b_ilss _ (wI (Int.tdiv x_4 8)) (x_5.length : Int))) rfl ?_
      refine wpR_nil ?_
      refine QE_then_n ?_
      refine wpC_cond rfl (fun hb_18 => ?_) (fun hb_18 => ?_)
      · have h := if_t h hb_18
        refine wpC_region ?_
        refine wpR_v (OpV_move rfl) rfl ?_
        refine wpR_v (OpV_move rfl) rfl ?_
        refine wpR_v (OpV_bin rfl rfl (b_iquo _ x_4 8 (by decide))) rfl ?_
        refine wpR_v (OpV_move rfl) rfl ?_
        refine wpR_v (OpV_move rfl) rfl ?_
        refine wpR_v (OpV_bin rfl rfl (b_iquo _ x_4 8 (by decide))) rfl ?_
        obtain ⟨x_14, hx_14, h⟩ := obind_some h
        refine wpR_v (G_ix Try.underlying22 ti5 rfl rfl (hS.ro 0 rfl) hx_14) rfl ?_
        refine wpR_v (G_load Try.underlying5 rfl rfl (hS.ro 0 rfl) hx_14 rfl) rfl ?_
        refine wpR_v (OpV_move rfl) rfl ?_
        refine wpR_v (OpV_move rfl) rfl ?_
        refine wpR_v (OpV_bin rfl rfl (b_irem _ x_4 8 (by decide))) rfl ?_
        refine wpR_v (OpV_bin rfl rfl (b_isub _ 7 (Int.tmod x_4 8))) rfl ?_
        refine wpR_v (OpV_conv rfl (cv_i_64 Try.underlying3 Try.underlying50 (wI (7 - (Int.tmod x_4 8))))) rfl ?_
        refine wpR_v (OpV_bin rfl rfl (b_ishl64 _ x_13 (UInt64.ofInt (wI (7 - (Int.tmod x_4 8)))))) rfl ?_
        refine wpR_v (OpV_conv rfl (cv_i_8 Try.underlying3 Try.underlying5 (iShl x_13 ((UInt64.ofInt (wI (7 - (Int.tmod x_4 8)))).toNat)))) rfl ?_
        refine wpR_v (OpV_bin rfl rfl (b_or8 _ x_14 (UInt8.ofInt (iShl x_13 ((UInt64.ofInt (wI (7 - (Int.tmod x_4 8)))).toNat))))) rfl ?_
        obtain ⟨x_15, hx_15, h⟩ := obind_some h
        refine wpR_v (G_ix Try.underlying22 ti5 rfl rfl (hS.ro 0 rfl) hx_15) rfl ?_
        refine wpR_y (G_storeE (t := (x_14 ||| (UInt8.ofInt (iShl x_13 ((UInt64.ofInt (wI (7 - (Int.tmod x_4 8)))).toNat))))) ti5 rfl rfl hS (i := 0) rfl hx_15 rfl) ?_
        intro w hS
        obtain ⟨x_16, hx_16, h⟩ := olet_some h
        rw [hx_16] at hS
        refine wpR_nil ?_
        refine QE_blk_n ?_
        refine QE_then_n ?_
        exact wpC_le _ (by exact ⟨rfl, rfl, rfl, rfl, trivial⟩) (hK_10 x_16 _ _ ⟨rfl, hS⟩ h)
      · have h := if_f h hb_18
        refine wpC_seq ?_
        refine wpC_region ?_
        refine wpR_v (OpV_move rfl) rfl ?_
        refine wpR_v (OpV_bin rfl rfl (b_ieql _ x_13 1)) rfl ?_
        refine wpR_nil ?_
        refine QE_then_n ?_
        refine wpC_cond rfl (fun hb_17 => ?_) (fun hb_17 => ?_)
        · have h := if_t h hb_17
          refine wpC_seq ?_
          refine wpC_region ?_
          refine wpR_v (OpV_assign rfl) rfl ?_
          refine wpR_v (OpV_assign rfl) rfl ?_
          refine wpR_nil ?_
          refine QE_then_n ?_
          refine wpC_ret ?_
          refine QE_blk_r ?_
          refine QE_then_r ?_
          refine QE_then_r ?_
          have h := oinr_some h hk_6
          refine QE_blk_r ?_
          refine QE_then_r ?_
          cases h
          exact QE_ret2 rfl rfl rfl ⟨.slice none 0 0, rfl, (hS.nil e8).pick [0] (by decide) rfl⟩
        · have h := if_f h hb_17
          refine wpC_skip ?_
          refine QE_blk_n ?_
          refine QE_then_n ?_
          exact wpC_le _ (by exact ⟨rfl, rfl, rfl, rfl, trivial⟩) (hK_10 x_5 _ _ ⟨rfl, hS⟩ h)
  · have h := if_f h hb_19
    refine wpC_exit ?_
    refine QE_then_x ?_
    refine QE_then_x ?_
    have h := oinr_some h hk_6
    refine QE_blk_x ?_
    refine QE_then_n ?_
    refine wpC_seq ?_
    refine wpC_region ?_
    refine wpR_v (OpV_move rfl) rfl ?_
    refine wpR_v (OpV_assign rfl) rfl ?_
    refine wpR_v (OpV_assign rfl) rfl ?_
    refine wpR_nil ?_
    refine QE_then_n ?_
    refine wpC_ret ?_
    cases h
    exact QE_ret2 rfl rfl rfl ⟨v_2, rfl, hS.pick [0] (by decide) rfl⟩

theorem c_ref1_Decode (w0 : World) (a0 : List UInt8)   (r : List UInt8 × Int × Int)
    (h : F.ref1_Decode a0 = some r) : Calls Try.prog 16 #[vS a0] w0 (Ret fun v w => ∃ u0 : Value, v = .tuple #[u0, vI r.2.1, vI r.2.2] ∧ St [] w0 w [own e8 u0 r.1]) := by
  refine calls_at 37 Try.func16 rfl rfl rfl ?_
  have hS := St.start w0
  refine wpC_le [(0, vS a0)] ⟨rfl, trivial⟩ ?_
  unfold F.ref1_Decode at h
  refine wpC_seq ?_
  refine wpC_region ?_
  refine wpR_v (OpV_assign rfl) rfl ?_
  refine wpR_v (OpV_assign rfl) rfl ?_
  refine wpR_v (OpV_assign rfl) rfl ?_
  refine wpR_nil ?_
  refine QE_then_n ?_
  refine wpC_seq ?_
  refine wpC_seq ?_
  refine wpC_region ?_
  refine wpR_v (OpV_assign rfl) rfl ?_
  refine wpR_nil ?_
  refine QE_then_n ?_
  refine wpC_block ?_
  refine wpC_le [(0, vS a0), (5, vI 0)] ⟨rfl, rfl, trivial⟩ ?_
  refine loop_ind (F.ref1_Decode_L1 a0) (fun (s : Int) L w => L = [(0, vS a0), (5, vI s)] ∧ St [] w0 w []) ?_ 0 ⟨rfl, hS⟩ h
  rintro k_14 x_1 L w q_4 hI ih_3 h hk_2
  try dsimp only at hI
  obtain ⟨rfl, hS⟩ := hI
  unfold F.ref1_Decode_L1 at h
  refine wpC_seq ?_
  refine wpC_seq ?_
  refine wpC_region ?_
  refine wpR_v (OpV_move rfl) rfl ?_
  refine wpR_v (OpV_move rfl) rfl ?_
  refine wpR_v (OpV_lenS Try.underlying9 rfl) rfl ?_
  refine wpR_v (OpV_bin rfl rfl (b_ilss _ x_1 (a0.length : Int))) rfl ?_
  refine wpR_nil ?_
  refine QE_then_n ?_
  refine wpC_cond rfl (fun hb_13 => ?_) (fun hb_13 => ?_)
  · have h := if_t h hb_13
    refine wpC_skip ?_
    refine QE_then_n ?_
    refine wpC_seq ?_
    refine wpC_block ?_
    refine wpC_seq ?_
    refine wpC_region ?_
    refine wpR_v (OpV_move rfl) rfl ?_
    refine wpR_v (OpV_move rfl) rfl ?_
    obtain ⟨x_5, hx_5, h⟩ := obind_some h
    refine wpR_v (G_ixS Try.underlying9 rfl rfl hx_5) rfl ?_
    obtain ⟨x_6, hx_6, h⟩ := obind_some h
    refine wpR_call (by kernel_rfl) rfl (c_ref1_number _ x_5 false   _ hx_6) rfl ?_
    rintro _ w ⟨rfl, hS1⟩
    have hS := hS.call hS1
    simp only [List.nil_append] at hS
    refine wpR_v (OpV_bin rfl rfl (b_ilss _ x_6 0)) rfl ?_
    refine wpR_nil ?_
    refine QE_then_n ?_
    refine wpC_cond rfl (fun hb_7 => ?_) (fun hb_7 => ?_)
    · have h := if_t h hb_7
      refine wpC_seq ?_
      refine wpC_region ?_
      refine wpR_v (OpV_move rfl) rfl ?_
      refine wpR_v (OpV_assign rfl) rfl ?_
      refine wpR_v (OpV_assign rfl) rfl ?_
      refine wpR_v (OpV_assign rfl) rfl ?_
      refine wpR_nil ?_
      refine QE_then_n ?_
      refine wpC_ret ?_
      refine QE_blk_r ?_
      refine QE_then_r ?_
      refine QE_then_r ?_
      have h := oinr_some h hk_2
      refine QE_blk_r ?_
      refine QE_then_r ?_
      cases h
      exact QE_ret3 rfl rfl rfl rfl ⟨.slice none 0 0, rfl, (hS.nil e8).pick [0] (by decide) rfl⟩
    · have h := if_f h hb_7
      refine wpC_skip ?_
      refine QE_blk_n ?_
      refine QE_then_n ?_
      refine wpC_region ?_
      refine wpR_v (OpV_move rfl) rfl ?_
      refine wpR_v (OpV_bin rfl rfl (b_iadd _ x_1 1)) rfl ?_
      refine wpR_v (OpV_assign rfl) rfl ?_
      refine wpR_nil ?_
      exact QE_rnd (wpN_le _ (by exact ⟨rfl, rfl, trivial⟩) (ih_3 (wI (x_1 + 1)) _ _ ⟨rfl, hS⟩ (oinl_some h hk_2)))
  · have h := if_f h hb_13
    refine wpC_exit ?_
    refine QE_then_x ?_
    refine QE_then_x ?_
    have h := oinr_some h hk_2
    refine QE_blk_x ?_
    refine QE_then_n ?_
    refine wpC_seq ?_
    refine wpC_seq ?_
    refine wpC_region ?_
    refine wpR_v (OpV_move rfl) rfl ?_
    refine wpR_v (OpV_lenS Try.underlying9 rfl) rfl ?_
    refine wpR_v (OpV_bin rfl rfl (b_irem _ (a0.length : Int) 4 (by decide))) rfl ?_
    refine wpR_v (OpV_bin rfl rfl (b_ieql _ (Int.tmod (a0.length : Int) 4) 1)) rfl ?_
    refine wpR_nil ?_
    refine QE_then_n ?_
    refine wpC_cond rfl (fun hb_12 => ?_) (fun hb_12 => ?_)
    · have h := if_t h hb_12
      refine wpC_seq ?_
      refine wpC_region ?_
      refine wpR_v (OpV_move rfl) rfl ?_
      refine wpR_v (OpV_lenS Try.underlying9 rfl) rfl ?_
      refine wpR_v (OpV_assign rfl) rfl ?_
      refine wpR_v (OpV_assign rfl) rfl ?_
      refine wpR_v (OpV_assign rfl) rfl ?_
      refine wpR_nil ?_
      refine QE_then_n ?_
      refine wpC_ret ?_
      refine QE_then_r ?_
      cases h
      exact QE_ret3 rfl rfl rfl rfl ⟨.slice none 0 0, rfl, (hS.nil e8).pick [0] (by decide) rfl⟩
    · have h := if_f h hb_12
      refine wpC_skip ?_
      refine QE_then_n ?_
      refine wpC_seq ?_
      refine wpC_region ?_
      refine wpR_v (OpV_move rfl) rfl ?_
      obtain ⟨x_8, hx_8, h⟩ := obind_some h
      refine wpR_call (by kernel_rfl) rfl (c_ref1_read _ a0 false   _ hx_8) rfl ?_
      rintro _ w ⟨v_9, rfl, hS1⟩
      have hS := hS.call hS1
      simp only [List.cons_append, List.nil_append] at hS
      refine wpR_v (OpV_move rfl) rfl ?_
      refine wpR_v (OpV_extract rfl rfl) rfl ?_
      refine wpR_v (OpV_extract rfl rfl) rfl ?_
      refine wpR_v (OpV_assign rfl) rfl ?_
      refine wpR_v (OpV_assign rfl) rfl ?_
      refine wpR_nil ?_
      refine QE_then_n ?_
      refine wpC_seq ?_
      refine wpC_seq ?_
      refine wpC_region ?_
      refine wpR_v (OpV_move rfl) rfl ?_
      refine wpR_v (OpV_un rfl (u_not x_8.2)) rfl ?_
      refine wpR_nil ?_
      refine QE_then_n ?_
      refine wpC_cond rfl (fun hb_11 => ?_) (fun hb_11 => ?_)
      · have h := if_t h hb_11
        refine wpC_seq ?_
        refine wpC_region ?_
        refine wpR_v (OpV_move rfl) rfl ?_
        refine wpR_v (OpV_lenS Try.underlying9 rfl) rfl ?_
        refine wpR_v (OpV_bin rfl rfl (b_isub _ (a0.length : Int) 1)) rfl ?_
        refine wpR_v (OpV_assign rfl) rfl ?_
        refine wpR_v (OpV_assign rfl) rfl ?_
        refine wpR_v (OpV_assign rfl) rfl ?_
        refine wpR_nil ?_
        refine QE_then_n ?_
        refine wpC_ret ?_
        refine QE_then_r ?_
        cases h
        exact QE_ret3 rfl rfl rfl rfl ⟨.slice none 0 0, rfl, (hS.nil e8).pick [0] (by decide) rfl⟩
      · have h := if_f h hb_11
        refine wpC_skip ?_
        refine QE_then_n ?_
        refine wpC_seq ?_
        refine wpC_region ?_
        refine wpR_v (OpV_move rfl) rfl ?_
        refine wpR_v (OpV_assign rfl) rfl ?_
        refine wpR_v (OpV_assign rfl) rfl ?_
        refine wpR_v (OpV_assign rfl) rfl ?_
        refine wpR_nil ?_
        refine QE_then_n ?_
        refine wpC_ret ?_
        cases h
        exact QE_ret3 rfl rfl rfl rfl ⟨v_9, rfl, hS.pick [0] (by decide) rfl⟩

theorem c_ref1_bit (w0 : World) (a0 : List UInt8) (a1 : Int) (va0 : Value) (ha0 : RP [] w0 e8 va0 a0) (r : Int)
    (h : F.ref1_bit a0 a1 = some r) : Calls Try.prog 33 #[va0, vI a1] w0 (Ret fun v w => v = vI r ∧ St [] w0 w []) := by
  refine calls_at 22 Try.func33 rfl rfl rfl ?_
  have hS := St.start w0
  refine wpC_le [(0, va0), (1, vI a1)] ⟨rfl, rfl, trivial⟩ ?_
  unfold F.ref1_bit at h
  refine wpC_seq ?_
  refine wpC_region ?_
  refine wpR_v (OpV_assign rfl) rfl ?_
  refine wpR_nil ?_
  refine QE_then_n ?_
  refine wpC_seq ?_
  refine wpC_seq ?_
  refine wpC_region ?_
  refine wpR_v (OpV_move rfl) rfl ?_
  refine wpR_v (OpV_bin rfl rfl (b_iquo _ a1 8 (by decide))) rfl ?_
  refine wpR_v (OpV_move rfl) rfl ?_
  refine wpR_v (OpV_len Try.underlying22 rfl (ha0.now hS.fr)) rfl ?_
  refine wpR_v (OpV_bin rfl rfl (b_igeq _ (wI (Int.tdiv a1 8)) (a0.length : Int))) rfl ?_
  refine wpR_nil ?_
  refine QE_then_n ?_
  refine wpC_cond rfl (fun hb_2 => ?_) (fun hb_2 => ?_)
  · have h := if_t h hb_2
    refine wpC_seq ?_
    refine wpC_region ?_
    refine wpR_v (OpV_assign rfl) rfl ?_
    refine wpR_nil ?_
    refine QE_then_n ?_
    refine wpC_ret ?_
    refine QE_then_r ?_
    cases h
    exact QE_ret1 rfl rfl ⟨rfl, hS⟩
  · have h := if_f h hb_2
    refine wpC_skip ?_
    refine QE_then_n ?_
    refine wpC_seq ?_
    refine wpC_region ?_
    refine wpR_v (OpV_move rfl) rfl ?_
    refine wpR_v (OpV_move rfl) rfl ?_
    refine wpR_v (OpV_bin rfl rfl (b_iquo _ a1 8 (by decide))) rfl ?_
    obtain ⟨x_1, hx_1, h⟩ := obind_some h
    refine wpR_v (G_ix Try.underlying22 ti5 rfl rfl (ha0.now hS.fr) hx_1) rfl ?_
    refine wpR_v (G_load Try.underlying5 rfl rfl (ha0.now hS.fr) hx_1 rfl) rfl ?_
    refine wpR_v (OpV_move rfl) rfl ?_
    refine wpR_v (OpV_bin rfl rfl (b_irem _ a1 8 (by decide))) rfl ?_
    refine wpR_v (OpV_bin rfl rfl (b_isub _ 7 (Int.tmod a1 8))) rfl ?_
    refine wpR_v (OpV_conv rfl (cv_i_64 Try.underlying3 Try.underlying50 (wI (7 - (Int.tmod a1 8))))) rfl ?_
    refine wpR_v (OpV_bin rfl rfl (b_shr8_64 _ x_1 (UInt64.ofInt (wI (7 - (Int.tmod a1 8)))))) rfl ?_
    refine wpR_v (OpV_conv rfl (cv_8_i Try.underlying5 Try.underlying3 (shr8 x_1 ((UInt64.ofInt (wI (7 - (Int.tmod a1 8)))).toNat)))) rfl ?_
    refine wpR_v (OpV_bin rfl rfl (b_iand _ ((shr8 x_1 ((UInt64.ofInt (wI (7 - (Int.tmod a1 8)))).toNat)).toNat : Int) 1)) rfl ?_
    refine wpR_v (OpV_assign rfl) rfl ?_
    refine wpR_nil ?_
    refine QE_then_n ?_
    refine wpC_ret ?_
    cases h
    exact QE_ret1 rfl rfl ⟨rfl, hS⟩

theorem c_ref1_spell (w0 : World) (a0 : List UInt8) (a1 : Bool) (va0 : Value) (ha0 : RP [] w0 e8 va0 a0) (r : List UInt8)
    (h : F.ref1_spell a0 a1 = some r) : Calls Try.prog 28 #[va0, vB a1] w0 (Ret fun v w => v = vS r ∧ St [] w0 w []) := by
  refine calls_at 39 Try.func28 rfl rfl rfl ?_
  have hS := St.start w0
  refine wpC_le [(0, va0), (1, vB a1)] ⟨rfl, rfl, trivial⟩ ?_
  unfold F.ref1_spell at h
  refine wpC_seq ?_
  refine wpC_region ?_
  refine wpR_v (OpV_assign rfl) rfl ?_
  refine wpR_nil ?_
  refine QE_then_n ?_
  refine wpC_seq ?_
  refine wpC_region ?_
  refine wpR_v (OpV_move rfl) rfl ?_
  obtain ⟨x_1, hx_1, h⟩ := obind_some h
  refine wpR_call (by kernel_rfl) rfl (c_ref1_signs _ a1   _ hx_1) rfl ?_
  rintro _ w ⟨rfl, hS1⟩
  have hS := hS.call hS1
  simp only [List.nil_append] at hS
  refine wpR_v (OpV_assign rfl) rfl ?_
  refine wpR_nil ?_
  refine QE_then_n ?_
  refine wpC_seq ?_
  refine wpC_region ?_
  refine wpR_v (OpV_assign rfl) rfl ?_
  refine wpR_nil ?_
  refine QE_then_n ?_
  refine wpC_seq ?_
  refine wpC_seq ?_
  refine wpC_region ?_
  refine wpR_v (OpV_assign rfl) rfl ?_
  refine wpR_nil ?_
  refine QE_then_n ?_
  refine wpC_block ?_
  refine wpC_le [(0, va0), (5, vS x_1), (6, .slice none 0 0), (7, vI 0)] ⟨rfl, rfl, rfl, rfl, trivial⟩ ?_
  refine loop_ind (F.ref1_spell_L1 a0 x_1) (fun (s : List UInt8 × Int) L w => ∃ v_3 : Value, L = [(0, va0), (5, vS x_1), (6, v_3), (7, vI s.2)] ∧ St [] w0 w [own e8 v_3 s.1]) ?_ ([], 0) ⟨.slice none 0 0, rfl, (hS.nil e8)⟩ h
  rintro k_25 ⟨x_2, x_5⟩ L w q_8 hI ih_7 h hk_6
  try dsimp only at hI
  obtain ⟨v_3, rfl, hS⟩ := hI
  unfold F.ref1_spell_L1 at h
  refine wpC_seq ?_
  refine wpC_seq ?_
  refine wpC_region ?_
  refine wpR_v (OpV_move rfl) rfl ?_
  refine wpR_v (OpV_move rfl) rfl ?_
  refine wpR_v (OpV_len Try.underlying22 rfl (ha0.now hS.fr)) rfl ?_
  refine wpR_v (OpV_bin rfl rfl (b_imul _ 8 (a0.length : Int))) rfl ?_
  refine wpR_v (OpV_bin rfl rfl (b_ilss _ x_5 (wI (8 * (a0.length : Int))))) rfl ?_
  refine wpR_nil ?_
  refine QE_then_n ?_
  refine wpC_cond rfl (fun hb_24 => ?_) (fun hb_24 => ?_)
  · have h := if_t h hb_24
    refine wpC_skip ?_
    refine QE_then_n ?_
    refine wpC_seq ?_
    refine wpC_block ?_
    refine wpC_seq ?_
    refine wpC_region ?_
    refine wpR_v (OpV_assign rfl) rfl ?_
    refine wpR_nil ?_
    refine QE_then_n ?_
    refine wpC_seq ?_
    refine wpC_seq ?_
    refine wpC_region ?_
    refine wpR_v (OpV_assign rfl) rfl ?_
    refine wpR_nil ?_
    refine QE_then_n ?_
    refine wpC_block ?_
    refine wpC_le [(0, va0), (5, vS x_1), (6, v_3), (7, vI x_5), (8, vI 0), (9, vI 0)] ⟨rfl, rfl, rfl, rfl, rfl, rfl, trivial⟩ ?_
    refine loop_ind (F.ref1_spell_L2 a0 x_1 x_2 x_5) (fun (s : Int × Int) L w => L = [(0, va0), (5, vS x_1), (6, v_3), (7, vI x_5), (8, vI s.1), (9, vI s.2)] ∧ St [] w0 w [own e8 v_3 x_2]) ?_ (0, 0) ⟨rfl, hS⟩ h
    rintro k_23 ⟨x_9, x_10⟩ L w q_13 hI ih_12 h hk_11
    try dsimp only at hI
    obtain ⟨rfl, hS⟩ := hI
    unfold F.ref1_spell_L2 at h
    refine wpC_seq ?_
    refine wpC_seq ?_
    refine wpC_region ?_
    refine wpR_v (OpV_move rfl) rfl ?_
    refine wpR_v (OpV_bin rfl rfl (b_ilss _ x_10 6)) rfl ?_
    refine wpR_nil ?_
    refine QE_then_n ?_
    refine wpC_cond rfl (fun hb_22 => ?_) (fun hb_22 => ?_)
    · have h := if_t h hb_22
      refine wpC_skip ?_
      refine QE_then_n ?_
      refine wpC_seq ?_
      refine wpC_block ?_
      refine wpC_region ?_
      refine wpR_v (OpV_move rfl) rfl ?_
      refine wpR_v (OpV_bin rfl rfl (b_imul _ 2 x_9)) rfl ?_
      refine wpR_v (OpV_move rfl) rfl ?_
      refine wpR_v (OpV_move rfl) rfl ?_
      refine wpR_v (OpV_move rfl) rfl ?_
      refine wpR_v (OpV_bin rfl rfl (b_iadd _ x_5 x_10)) rfl ?_
      obtain ⟨x_14, hx_14, h⟩ := obind_some h
      refine wpR_call (by kernel_rfl) rfl (c_ref1_bit _ a0 (wI (x_5 + x_10)) va0 (ha0.now hS.fr).rp _ hx_14) rfl ?_
      rintro _ w ⟨rfl, hS1⟩
      have hS := hS.call hS1
      simp only [List.nil_append] at hS
      refine wpR_v (OpV_bin rfl rfl (b_iadd _ (wI (2 * x_9)) x_14)) rfl ?_
      obtain ⟨x_15, hx_15, h⟩ := olet_some h
      refine wpR_v (OpV_assign (v := vI x_15) (by rw [← hx_15]; rfl)) rfl ?_
      refine wpR_nil ?_
      refine QE_blk_n ?_
      refine QE_then_n ?_
      refine wpC_region ?_
      refine wpR_v (OpV_move rfl) rfl ?_
      refine wpR_v (OpV_bin rfl rfl (b_iadd _ x_10 1)) rfl ?_
      refine wpR_v (OpV_assign rfl) rfl ?_
      refine wpR_nil ?_
      exact QE_rnd (wpN_le _ (by exact ⟨rfl, rfl, rfl, rfl, rfl, rfl, trivial⟩) (ih_12 (x_15, wI (x_10 + 1)) _ _ ⟨rfl, hS⟩ (oinl_some h hk_11)))
    · have h := if_f h hb_22
      refine wpC_exit ?_
      refine QE_then_x ?_
      refine QE_then_x ?_
      have h := oinr_some h hk_11
      refine QE_blk_x ?_
      refine QE_then_n ?_
      refine wpC_region ?_
      refine wpR_v (OpV_move rfl) rfl ?_
      refine wpR_v (OpV_move rfl) rfl ?_
      refine wpR_v (OpV_move rfl) rfl ?_
      obtain ⟨x_16, hx_16, h⟩ := obind_some h
      refine wpR_v (G_ixS Try.underlying9 rfl rfl hx_16) rfl ?_
      refine wpR_x (OpX_lit (e := e8) (l := [x_16]) (vs := [v8 x_16]) Try.underlying22 ti5 rfl rfl rfl rfl (by decide) (by decide) hS) rfl ?_
      rintro v_17 w hS
      obtain ⟨x_19, hx_19, h⟩ := obind_some h
      refine wpR_x (G_append Try.underlying22 ti5 rfl rfl rfl hS (i := 1) rfl (hS.ro 0 rfl) hx_19) rfl ?_
      rintro v_20 w hS
      refine wpR_v (OpV_assign rfl) rfl ?_
      refine wpR_nil ?_
      refine QE_blk_n ?_
      refine QE_then_n ?_
      refine wpC_region ?_
      refine wpR_v (OpV_move rfl) rfl ?_
      refine wpR_v (OpV_bin rfl rfl (b_iadd _ x_5 6)) rfl ?_
      refine wpR_v (OpV_assign rfl) rfl ?_
      refine wpR_nil ?_
      exact QE_rnd (wpN_le _ (by exact ⟨rfl, rfl, rfl, rfl, trivial⟩) (ih_7 (x_19, wI (x_5 + 6)) _ _ ⟨v_20, rfl, (hS.pick [1] (by decide) rfl)⟩ (oinl_some h hk_6)))
  · have h := if_f h hb_24
    refine wpC_exit ?_
    refine QE_then_x ?_
    refine QE_then_x ?_
    have h := oinr_some h hk_6
    refine QE_blk_x ?_
    refine QE_then_n ?_
    refine wpC_seq ?_
    refine wpC_region ?_
    refine wpR_v (OpV_move rfl) rfl ?_
    refine wpR_v (OpV_str Try.underlying22 Try.underlying5 Try.underlying9 rfl (hS.ro 0 rfl)) rfl ?_
    refine wpR_v (OpV_assign rfl) rfl ?_
    refine wpR_nil ?_
    refine QE_then_n ?_
    refine wpC_ret ?_
    cases h
    exact QE_ret1 rfl rfl ⟨rfl, hS.pick [] (by decide) rfl⟩

theorem c_ref1_Encode (w0 : World) (a0 : List UInt8) (va0 : Value) (ha0 : RP [] w0 e8 va0 a0) (r : List UInt8)
    (h : F.ref1_Encode a0 = some r) : Calls Try.prog 18 #[va0] w0 (Ret fun v w => v = vS r ∧ St [] w0 w []) := by
  refine calls_at 5 Try.func18 rfl rfl rfl ?_
  have hS := St.start w0
  refine wpC_le [(0, va0)] ⟨rfl, trivial⟩ ?_
  unfold F.ref1_Encode at h
  refine wpC_seq ?_
  refine wpC_region ?_
  refine wpR_v (OpV_assign rfl) rfl ?_
  refine wpR_nil ?_
  refine QE_then_n ?_
  refine wpC_seq ?_
  refine wpC_region ?_
  refine wpR_v (OpV_move rfl) rfl ?_
  obtain ⟨x_1, hx_1, h⟩ := obind_some h
  refine wpR_call (by kernel_rfl) rfl (c_ref1_spell _ a0 false va0 (ha0.now hS.fr).rp _ hx_1) rfl ?_
  rintro _ w ⟨rfl, hS1⟩
  have hS := hS.call hS1
  simp only [List.nil_append] at hS
  refine wpR_v (OpV_assign rfl) rfl ?_
  refine wpR_nil ?_
  refine QE_then_n ?_
  refine wpC_ret ?_
  cases h
  exact QE_ret1 rfl rfl ⟨rfl, hS⟩
end Go.Proofs
