/- Walks: each Go function of package law1 computes its plain function. Written by a program of ours. -/
import Derived.Test.YtmmlnghanonbjaaW0
import Derived.Test.YtmmlnghanonbjaaGkFlaw1
import Derived.Test.YtmmlnghanonbjaaWb64
import Derived.Test.YtmmlnghanonbjaaWlaw1a
set_option linter.unusedVariables false
set_option maxRecDepth 4000
namespace Go.Proofs
open Go Go.RowKit Go.Gk

theorem c_law1_B64Number (w0 : World) (a0 : List UInt8) (va0 : Value) (ha0 : RP [] w0 e8 va0 a0) (r : Bool)
    (h : F.law1_B64Number a0 = some r) : Calls Try.prog 6 #[va0] w0 (Ret fun v w => v = vB r ∧ St [] w0 w []) := by
  refine calls_at 75 Try.func6 rfl rfl rfl ?_
  have hS := St.start w0
  refine wpC_le [(0, va0)] ⟨rfl, trivial⟩ ?_
  unfold F.law1_B64Number at h
  refine wpC_seq ?_
  refine wpC_region ?_
  refine wpR_v (OpV_assign rfl) rfl ?_
  refine wpR_nil ?_
  refine QE_then_n ?_
  refine wpC_seq ?_
  refine wpC_seq ?_
  refine wpC_region ?_
  obtain ⟨x_1, hx_1, h⟩ := obind_some h
  refine wpR_call (by kernel_rfl) rfl (c_law1_awake _    _ hx_1) rfl ?_
  rintro _ w ⟨rfl, hS1⟩
  have hS := hS.call hS1
  simp only [List.nil_append] at hS
  refine wpR_v (OpV_un rfl (u_not x_1)) rfl ?_
  refine wpR_nil ?_
  refine QE_then_n ?_
  refine wpC_cond rfl (fun hb_33 => ?_) (fun hb_33 => ?_)
  · have h := if_t h hb_33
    refine wpC_seq ?_
    refine wpC_region ?_
    refine wpR_v (OpV_assign rfl) rfl ?_
    refine wpR_nil ?_
    refine QE_then_n ?_
    refine wpC_ret ?_
    refine QE_then_r ?_
    cases h
    exact QE_ret1 rfl rfl ⟨rfl, hS⟩
  · have h := if_f h hb_33
    refine wpC_skip ?_
    refine QE_then_n ?_
    refine wpC_seq ?_
    refine wpC_region ?_
    refine wpR_v (OpV_move rfl) rfl ?_
    obtain ⟨x_2, hx_2, h⟩ := obind_some h
    refine wpR_call (by kernel_rfl) rfl (c_b64_Encode _ a0 va0 (ha0.now hS.fr).rp _ hx_2) rfl ?_
    rintro _ w ⟨rfl, hS1⟩
    have hS := hS.call hS1
    simp only [List.nil_append] at hS
    refine wpR_v (OpV_assign rfl) rfl ?_
    refine wpR_nil ?_
    refine QE_then_n ?_
    refine wpC_seq ?_
    refine wpC_region ?_
    refine wpR_v (OpV_assign rfl) rfl ?_
    refine wpR_nil ?_
    refine QE_then_n ?_
    refine wpC_seq ?_
    refine wpC_region ?_
    refine wpR_v (OpV_assign rfl) rfl ?_
    refine wpR_nil ?_
    refine QE_then_n ?_
    refine wpC_seq ?_
    refine wpC_region ?_
    refine wpR_v (OpV_assign rfl) rfl ?_
    refine wpR_nil ?_
    refine QE_then_n ?_
    refine wpC_seq ?_
    refine wpC_seq ?_
    refine wpC_region ?_
    refine wpR_v (OpV_assign rfl) rfl ?_
    refine wpR_nil ?_
    refine QE_then_n ?_
    refine wpC_block ?_
    refine wpC_le [(0, va0), (3, vS x_2), (4, vI 0), (5, vI 0), (6, vI 0), (7, vI 0)] ⟨rfl, rfl, rfl, rfl, rfl, rfl, trivial⟩ ?_
    refine loop_ind (F.law1_B64Number_L1 a0 x_2) (fun (s : Int × Int × Int × Int) L w => L = [(0, va0), (3, vS x_2), (4, vI s.1), (5, vI s.2.1), (6, vI s.2.2.1), (7, vI s.2.2.2)] ∧ St [] w0 w []) ?_ (0, 0, 0, 0) ⟨rfl, hS⟩ h
    rintro k_32 ⟨x_3, x_4, x_5, x_6⟩ L w q_9 hI ih_8 h hk_7
    try dsimp only at hI
    obtain ⟨rfl, hS⟩ := hI
    unfold F.law1_B64Number_L1 at h
    refine wpC_seq ?_
    refine wpC_seq ?_
    refine wpC_region ?_
    refine wpR_v (OpV_move rfl) rfl ?_
    refine wpR_v (OpV_move rfl) rfl ?_
    refine wpR_v (OpV_lenS Try.underlying9 rfl) rfl ?_
    refine wpR_v (OpV_bin rfl rfl (b_ilss _ x_6 (x_2.length : Int))) rfl ?_
    refine wpR_nil ?_
    refine QE_then_n ?_
    refine wpC_cond rfl (fun hb_31 => ?_) (fun hb_31 => ?_)
    · have h := if_t h hb_31
      refine wpC_skip ?_
      refine QE_then_n ?_
      refine wpC_seq ?_
      refine wpC_block ?_
      refine wpC_seq ?_
      refine wpC_region ?_
      refine wpR_v (OpV_move rfl) rfl ?_
      refine wpR_v (OpV_move rfl) rfl ?_
      obtain ⟨x_10, hx_10, h⟩ := obind_some h
      refine wpR_v (G_ixS Try.underlying9 rfl rfl hx_10) rfl ?_
      obtain ⟨x_11, hx_11, h⟩ := obind_some h
      refine wpR_call (by kernel_rfl) rfl (c_law1_sign _ x_10   _ hx_11) rfl ?_
      rintro _ w ⟨rfl, hS1⟩
      have hS := hS.call hS1
      simp only [List.nil_append] at hS
      refine wpR_v (OpV_assign rfl) rfl ?_
      refine wpR_nil ?_
      refine QE_then_n ?_
      refine wpC_seq ?_
      refine wpC_seq ?_
      refine wpC_region ?_
      refine wpR_v (OpV_move rfl) rfl ?_
      refine wpR_v (OpV_bin rfl rfl (b_igtr _ x_11 63)) rfl ?_
      refine wpR_nil ?_
      refine QE_then_n ?_
      refine wpC_cond rfl (fun hb_29 => ?_) (fun hb_29 => ?_)
      · have h := if_t h hb_29
        refine wpC_seq ?_
        refine wpC_region ?_
        refine wpR_v (OpV_assign rfl) rfl ?_
        refine wpR_nil ?_
        refine QE_then_n ?_
        refine wpC_ret ?_
        refine QE_then_r ?_
        refine QE_blk_r ?_
        refine QE_then_r ?_
        refine QE_then_r ?_
        have h := oinr_some h hk_7
        refine QE_blk_r ?_
        refine QE_then_r ?_
        cases h
        exact QE_ret1 rfl rfl ⟨rfl, hS⟩
      · have h := if_f h hb_29
        refine wpC_skip ?_
        refine QE_then_n ?_
        refine wpC_seq ?_
        refine wpC_block ?_
        refine wpC_le [(0, va0), (3, vS x_2), (4, vI x_3), (5, vI x_4), (6, vI x_5), (7, vI x_6), (8, vI x_11)] ⟨rfl, rfl, rfl, rfl, rfl, rfl, rfl, trivial⟩ ?_
        refine loop_ind (F.law1_B64Number_L2 a0 x_6 x_11) (fun (s : Int × Int × Int) L w => L = [(0, va0), (3, vS x_2), (4, vI s.1), (5, vI s.2.1), (6, vI s.2.2), (7, vI x_6), (8, vI x_11)] ∧ St [] w0 w []) ?_ (x_3, x_4, x_5) ⟨rfl, hS⟩ h
        rintro k_28 ⟨x_12, x_13, x_14⟩ L w q_17 hI ih_16 h hk_15
        try dsimp only at hI
        obtain ⟨rfl, hS⟩ := hI
        unfold F.law1_B64Number_L2 at h
        refine wpC_seq ?_
        refine seq_join (r := q_17) (fun (g : Bool) L w => L = [(0, va0), (3, vS x_2), (4, vI x_12), (5, vI x_13), (6, vI x_14), (7, vI x_6), (8, vI x_11), (32, vB g)] ∧ St [] w0 w []) (F.law1_B64Number_K1 a0 x_12 x_13 x_14 x_6 x_11) ?_ ?_
        · rintro x_18 L w hJ h
          try dsimp only at hJ
          obtain ⟨rfl, hS⟩ := hJ
          unfold F.law1_B64Number_K1 at h
          refine wpC_cond rfl (fun hb_26 => ?_) (fun hb_26 => ?_)
          · have h := if_t h hb_26
            refine wpC_skip ?_
            refine QE_then_n ?_
            refine wpC_block ?_
            refine wpC_seq ?_
            refine wpC_region ?_
            refine wpR_v (OpV_move rfl) rfl ?_
            refine wpR_v (OpV_bin rfl rfl (b_imul _ 256 x_13)) rfl ?_
            refine wpR_v (OpV_move rfl) rfl ?_
            refine wpR_v (OpV_move rfl) rfl ?_
            obtain ⟨x_20, hx_20, h⟩ := obind_some h
            refine wpR_v (G_ix Try.underlying22 ti5 rfl rfl (ha0.now hS.fr) hx_20) rfl ?_
            refine wpR_v (G_load Try.underlying5 rfl rfl (ha0.now hS.fr) hx_20 rfl) rfl ?_
            refine wpR_v (OpV_conv rfl (cv_8_i Try.underlying5 Try.underlying3 x_20)) rfl ?_
            refine wpR_v (OpV_bin rfl rfl (b_iadd _ (wI (256 * x_13)) (x_20.toNat : Int))) rfl ?_
            refine wpR_v (OpV_assign rfl) rfl ?_
            refine wpR_nil ?_
            refine QE_then_n ?_
            refine wpC_seq ?_
            refine wpC_region ?_
            refine wpR_v (OpV_move rfl) rfl ?_
            refine wpR_v (OpV_bin rfl rfl (b_iadd _ x_14 1)) rfl ?_
            refine wpR_v (OpV_assign rfl) rfl ?_
            refine wpR_nil ?_
            refine QE_then_n ?_
            refine wpC_region ?_
            refine wpR_v (OpV_move rfl) rfl ?_
            refine wpR_v (OpV_bin rfl rfl (b_iadd _ x_12 8)) rfl ?_
            refine wpR_v (OpV_assign rfl) rfl ?_
            refine wpR_nil ?_
            refine QE_blk_n ?_
            exact QE_rnd (wpN_le _ (by exact ⟨rfl, rfl, rfl, rfl, rfl, rfl, rfl, trivial⟩) (ih_16 (wI (x_12 + 8), wI ((wI (256 * x_13)) + (x_20.toNat : Int)), wI (x_14 + 1)) _ _ ⟨rfl, hS⟩ (oinl_some h hk_15)))
          · have h := if_f h hb_26
            refine wpC_exit ?_
            refine QE_then_x ?_
            refine QE_then_x ?_
            have h := oinr_some h hk_15
            refine QE_blk_x ?_
            refine QE_then_n ?_
            refine seq_join (r := q_9) (fun (g : Int × Int) L w => L = [(0, va0), (3, vS x_2), (4, vI g.1), (5, vI g.2), (6, vI x_14), (7, vI x_6), (8, vI x_11)] ∧ St [] w0 w []) (F.law1_B64Number_K2 x_6 x_11 x_14) ?_ ?_
            · rintro ⟨x_21, x_22⟩ L w hJ h
              try dsimp only at hJ
              obtain ⟨rfl, hS⟩ := hJ
              unfold F.law1_B64Number_K2 at h
              refine wpC_seq ?_
              refine wpC_seq ?_
              refine wpC_region ?_
              refine wpR_v (OpV_move rfl) rfl ?_
              refine wpR_v (OpV_move rfl) rfl ?_
              refine wpR_v (OpV_bin rfl rfl (b_isub _ x_21 6)) rfl ?_
              refine wpR_v (OpV_conv rfl (cv_i_64 Try.underlying3 Try.underlying33 (wI (x_21 - 6)))) rfl ?_
              refine wpR_v (OpV_bin rfl rfl (b_ishr64 _ x_22 (UInt64.ofInt (wI (x_21 - 6))))) rfl ?_
              refine wpR_v (OpV_move rfl) rfl ?_
              refine wpR_v (OpV_bin rfl rfl (b_ineq _ (iShr x_22 ((UInt64.ofInt (wI (x_21 - 6))).toNat)) x_11)) rfl ?_
              refine wpR_nil ?_
              refine QE_then_n ?_
              refine wpC_cond rfl (fun hb_24 => ?_) (fun hb_24 => ?_)
              · have h := if_t h hb_24
                refine wpC_seq ?_
                refine wpC_region ?_
                refine wpR_v (OpV_assign rfl) rfl ?_
                refine wpR_nil ?_
                refine QE_then_n ?_
                refine wpC_ret ?_
                refine QE_then_r ?_
                refine QE_blk_r ?_
                refine QE_then_r ?_
                refine QE_then_r ?_
                have h := oinr_some h hk_7
                refine QE_blk_r ?_
                refine QE_then_r ?_
                cases h
                exact QE_ret1 rfl rfl ⟨rfl, hS⟩
              · have h := if_f h hb_24
                refine wpC_skip ?_
                refine QE_then_n ?_
                refine wpC_seq ?_
                refine wpC_region ?_
                refine wpR_v (OpV_move rfl) rfl ?_
                refine wpR_v (OpV_bin rfl rfl (b_isub _ x_21 6)) rfl ?_
                refine wpR_v (OpV_assign rfl) rfl ?_
                refine wpR_nil ?_
                refine QE_then_n ?_
                refine wpC_region ?_
                refine wpR_v (OpV_move rfl) rfl ?_
                refine wpR_v (OpV_move rfl) rfl ?_
                refine wpR_v (OpV_conv rfl (cv_i_64 Try.underlying3 Try.underlying33 (wI (x_21 - 6)))) rfl ?_
                refine wpR_v (OpV_bin rfl rfl (b_ishl64 _ 1 (UInt64.ofInt (wI (x_21 - 6))))) rfl ?_
                refine wpR_v (OpV_bin rfl rfl (b_isub _ (iShl 1 ((UInt64.ofInt (wI (x_21 - 6))).toNat)) 1)) rfl ?_
                refine wpR_v (OpV_bin rfl rfl (b_iand _ x_22 (wI ((iShl 1 ((UInt64.ofInt (wI (x_21 - 6))).toNat)) - 1)))) rfl ?_
                refine wpR_v (OpV_assign rfl) rfl ?_
                refine wpR_nil ?_
                refine QE_blk_n ?_
                refine QE_then_n ?_
                refine wpC_region ?_
                refine wpR_v (OpV_move rfl) rfl ?_
                refine wpR_v (OpV_bin rfl rfl (b_iadd _ x_6 1)) rfl ?_
                refine wpR_v (OpV_assign rfl) rfl ?_
                refine wpR_nil ?_
                exact QE_rnd (wpN_le _ (by exact ⟨rfl, rfl, rfl, rfl, rfl, rfl, trivial⟩) (ih_8 (wI (x_21 - 6), iAnd x_22 (wI ((iShl 1 ((UInt64.ofInt (wI (x_21 - 6))).toNat)) - 1)), x_14, wI (x_6 + 1)) _ _ ⟨rfl, hS⟩ (oinl_some h hk_7)))
            · intro hK_23
              refine wpC_seq ?_
              refine wpC_region ?_
              refine wpR_v (OpV_move rfl) rfl ?_
              refine wpR_v (OpV_bin rfl rfl (b_ilss _ x_12 6)) rfl ?_
              refine wpR_nil ?_
              refine QE_then_n ?_
              refine wpC_cond rfl (fun hb_25 => ?_) (fun hb_25 => ?_)
              · have h := if_t h hb_25
                refine wpC_seq ?_
                refine wpC_region ?_
                refine wpR_v (OpV_move rfl) rfl ?_
                refine wpR_v (OpV_move rfl) rfl ?_
                refine wpR_v (OpV_bin rfl rfl (b_isub _ 6 x_12)) rfl ?_
                refine wpR_v (OpV_conv rfl (cv_i_64 Try.underlying3 Try.underlying33 (wI (6 - x_12)))) rfl ?_
                refine wpR_v (OpV_bin rfl rfl (b_ishl64 _ x_13 (UInt64.ofInt (wI (6 - x_12))))) rfl ?_
                refine wpR_v (OpV_assign rfl) rfl ?_
                refine wpR_nil ?_
                refine QE_then_n ?_
                refine wpC_region ?_
                refine wpR_v (OpV_assign rfl) rfl ?_
                refine wpR_nil ?_
                refine QE_then_n ?_
                exact wpC_le _ (by exact ⟨rfl, rfl, rfl, rfl, rfl, rfl, rfl, trivial⟩) (hK_23 (6, iShl x_13 ((UInt64.ofInt (wI (6 - x_12))).toNat)) _ _ ⟨rfl, hS⟩ h)
              · have h := if_f h hb_25
                refine wpC_skip ?_
                refine QE_then_n ?_
                exact wpC_le _ (by exact ⟨rfl, rfl, rfl, rfl, rfl, rfl, rfl, trivial⟩) (hK_23 (x_12, x_13) _ _ ⟨rfl, hS⟩ h)
        · intro hK_19
          refine wpC_region ?_
          refine wpR_v (OpV_move rfl) rfl ?_
          refine wpR_v (OpV_bin rfl rfl (b_ilss _ x_12 6)) rfl ?_
          refine wpR_v (OpV_move rfl) rfl ?_
          cases hb_27 : (decide (x_12 < 6))
          case true =>
            have h := if_t h hb_27
            try simp only [hb_27]
            refine wpR_gv (t := 27) rfl rfl (OpV_move rfl) rfl ?_
            refine wpR_gv (t := 27) rfl rfl (OpV_move rfl) rfl ?_
            refine wpR_gv (t := 27) rfl rfl (OpV_len Try.underlying22 rfl (ha0.now hS.fr)) rfl ?_
            refine wpR_gv (t := 27) rfl rfl (OpV_bin rfl rfl (b_ilss _ x_14 (a0.length : Int))) rfl ?_
            refine wpR_v (OpV_pickT rfl rfl) rfl ?_
            refine wpR_nil ?_
            refine QE_then_n ?_
            exact wpC_le _ (by exact ⟨rfl, rfl, rfl, rfl, rfl, rfl, rfl, rfl, trivial⟩) (hK_19 (decide (x_14 < (a0.length : Int))) _ _ ⟨rfl, hS⟩ h)
          case false =>
            have h := if_f h hb_27
            try simp only [hb_27]
            refine wpR_gskip (b := false) (t := 27) rfl rfl rfl rfl ?_
            refine wpR_gskip (b := false) (t := 27) rfl rfl rfl rfl ?_
            refine wpR_gskip (b := false) (t := 27) rfl rfl rfl rfl ?_
            refine wpR_gskip (b := false) (t := 27) rfl rfl rfl rfl ?_
            refine wpR_v (OpV_pickF rfl rfl) rfl ?_
            refine wpR_nil ?_
            refine QE_then_n ?_
            exact wpC_le _ (by exact ⟨rfl, rfl, rfl, rfl, rfl, rfl, rfl, rfl, trivial⟩) (hK_19 false _ _ ⟨rfl, hS⟩ h)
    · have h := if_f h hb_31
      refine wpC_exit ?_
      refine QE_then_x ?_
      refine QE_then_x ?_
      have h := oinr_some h hk_7
      refine QE_blk_x ?_
      refine QE_then_n ?_
      refine wpC_seq ?_
      refine wpC_region ?_
      refine wpR_v (OpV_move rfl) rfl ?_
      refine wpR_v (OpV_move rfl) rfl ?_
      refine wpR_v (OpV_len Try.underlying22 rfl (ha0.now hS.fr)) rfl ?_
      refine wpR_v (OpV_bin rfl rfl (b_ieql _ x_5 (a0.length : Int))) rfl ?_
      refine wpR_v (OpV_move rfl) rfl ?_
      cases hb_30 : (x_5 == (a0.length : Int))
      case true =>
        have h := if_t h hb_30
        try simp only [hb_30]
        refine wpR_gv (t := 71) rfl rfl (OpV_move rfl) rfl ?_
        refine wpR_gv (t := 71) rfl rfl (OpV_bin rfl rfl (b_ieql _ x_3 0)) rfl ?_
        refine wpR_v (OpV_pickT rfl rfl) rfl ?_
        refine wpR_v (OpV_assign rfl) rfl ?_
        refine wpR_nil ?_
        refine QE_then_n ?_
        refine wpC_ret ?_
        cases h
        exact QE_ret1 rfl rfl ⟨rfl, hS⟩
      case false =>
        have h := if_f h hb_30
        try simp only [hb_30]
        refine wpR_gskip (b := false) (t := 71) rfl rfl rfl rfl ?_
        refine wpR_gskip (b := false) (t := 71) rfl rfl rfl rfl ?_
        refine wpR_v (OpV_pickF rfl rfl) rfl ?_
        refine wpR_v (OpV_assign rfl) rfl ?_
        refine wpR_nil ?_
        refine QE_then_n ?_
        refine wpC_ret ?_
        cases h
        exact QE_ret1 rfl rfl ⟨rfl, hS⟩

theorem c_law1_B64Joins (w0 : World) (a0 : List UInt8) (a1 : List UInt8) (va0 : Value) (va1 : Value) (ha0 : RP [] w0 e8 va0 a0) (ha1 : RP [] w0 e8 va1 a1) (r : Bool)
    (h : F.law1_B64Joins a0 a1 = some r) : Calls Try.prog 7 #[va0, va1] w0 (Ret fun v w => v = vB r ∧ St [] w0 w []) := by
  refine calls_at 45 Try.func7 rfl rfl rfl ?_
  have hS := St.start w0
  refine wpC_le [(0, va0), (1, va1)] ⟨rfl, rfl, trivial⟩ ?_
  unfold F.law1_B64Joins at h
  refine wpC_seq ?_
  refine wpC_region ?_
  refine wpR_v (OpV_assign rfl) rfl ?_
  refine wpR_nil ?_
  refine QE_then_n ?_
  refine wpC_seq ?_
  refine wpC_seq ?_
  refine wpC_region ?_
  obtain ⟨x_1, hx_1, h⟩ := obind_some h
  refine wpR_call (by kernel_rfl) rfl (c_law1_awake _    _ hx_1) rfl ?_
  rintro _ w ⟨rfl, hS1⟩
  have hS := hS.call hS1
  simp only [List.nil_append] at hS
  refine wpR_v (OpV_un rfl (u_not x_1)) rfl ?_
  refine wpR_nil ?_
  refine QE_then_n ?_
  refine wpC_cond rfl (fun hb_21 => ?_) (fun hb_21 => ?_)
  · have h := if_t h hb_21
    refine wpC_seq ?_
    refine wpC_region ?_
    refine wpR_v (OpV_assign rfl) rfl ?_
    refine wpR_nil ?_
    refine QE_then_n ?_
    refine wpC_ret ?_
    refine QE_then_r ?_
    cases h
    exact QE_ret1 rfl rfl ⟨rfl, hS⟩
  · have h := if_f h hb_21
    refine wpC_skip ?_
    refine QE_then_n ?_
    refine wpC_seq ?_
    refine wpC_region ?_
    refine wpR_v (OpV_move rfl) rfl ?_
    refine wpR_v (OpV_len Try.underlying22 rfl (ha0.now hS.fr)) rfl ?_
    refine wpR_v (OpV_move rfl) rfl ?_
    refine wpR_v (OpV_len Try.underlying22 rfl (ha0.now hS.fr)) rfl ?_
    refine wpR_v (OpV_bin rfl rfl (b_irem _ (a0.length : Int) 3 (by decide))) rfl ?_
    refine wpR_v (OpV_bin rfl rfl (b_isub _ (a0.length : Int) (Int.tmod (a0.length : Int) 3))) rfl ?_
    obtain ⟨x_2, hx_2, h⟩ := olet_some h
    refine wpR_v (OpV_assign (v := vI x_2) (by rw [← hx_2]; rfl)) rfl ?_
    refine wpR_nil ?_
    refine QE_then_n ?_
    refine wpC_seq ?_
    refine wpC_region ?_
    refine wpR_v (OpV_assign rfl) rfl ?_
    refine wpR_nil ?_
    refine QE_then_n ?_
    refine wpC_seq ?_
    refine wpC_region ?_
    refine wpR_v (OpV_move rfl) rfl ?_
    refine wpR_v (OpV_move rfl) rfl ?_
    refine wpR_v (OpV_move rfl) rfl ?_
    obtain ⟨x_3, hx_3, h⟩ := obind_some h
    refine wpR_v (G_slh Try.underlying22 ti5 rfl rfl (ha0.now hS.fr) hx_3) rfl ?_
    obtain ⟨x_4, hx_4, h⟩ := obind_some h
    refine wpR_x (G_append0 Try.underlying22 ti5 rfl rfl rfl hS ((ha0.g_slh hx_3).now hS.fr) hx_4) rfl ?_
    rintro v_5 w hS
    refine wpR_v (OpV_assign rfl) rfl ?_
    refine wpR_nil ?_
    refine QE_then_n ?_
    refine wpC_seq ?_
    refine wpC_region ?_
    refine wpR_v (OpV_move rfl) rfl ?_
    refine wpR_v (OpV_move rfl) rfl ?_
    obtain ⟨x_7, hx_7, h⟩ := obind_some h
    refine wpR_x (G_append Try.underlying22 ti5 rfl rfl rfl hS (i := 0) rfl (ha1.now hS.fr) hx_7) rfl ?_
    rintro v_8 w hS
    refine wpR_v (OpV_assign rfl) rfl ?_
    refine wpR_nil ?_
    refine QE_then_n ?_
    refine wpC_seq ?_
    refine wpC_regionT (fun w' => Fr [] w0 w') (fun i => !([1, 5, 7, 12, 16, 18].contains i)) hmix (fun _ _ _ hf => hf.2) (fun _ _ hf => hf) (by kernel_rfl) ?_
    have hS := hS.drew
    show lxE _ _ _ _ _ _ [0, 1, 2, 3, 4, 5, 6, 7, 8, 9, 10, 11, 12, 13, 14, 15, 16, 17, 18, 19, 20, 21, 22] _ _
    refine lxE_v hS.fr rfl rfl (fun w hF => OpV_move rfl) rfl ?_
    obtain ⟨x_10, hx_10, h⟩ := obind_some h
    refine lxE_call hS.fr rfl rfl (by kernel_rfl) rfl (c_b64_Encode _ x_7 v_8 (hS.ro 0 rfl).rp _ hx_10) rfl ?_
    rintro _ w ⟨rfl, hS1⟩
    have hS := hS.call hS1
    simp only [List.nil_append] at hS
    refine lxE_v hS.fr rfl rfl (fun w hF => OpV_move rfl) rfl ?_
    refine lxE_v hS.fr rfl rfl (fun w hF => OpV_move rfl) rfl ?_
    obtain ⟨x_11, hx_11, h⟩ := obind_some h
    refine lxE_v hS.fr rfl rfl (fun w hF => G_slh Try.underlying22 ti5 rfl rfl (ha0.now hF) hx_11) rfl ?_
    obtain ⟨x_12, hx_12, h⟩ := obind_some h
    refine lxE_call hS.fr rfl rfl (by kernel_rfl) rfl (c_b64_Encode _ x_11 (slV va0 e8.sz 0 ((x_2 : Int).toNat)) ((ha0.g_slh hx_11).now hS.fr).rp _ hx_12) rfl ?_
    rintro _ w ⟨rfl, hS1⟩
    have hS := hS.call hS1
    simp only [List.nil_append] at hS
    refine lxE_v hS.fr rfl rfl (fun w hF => OpV_move rfl) rfl ?_
    obtain ⟨x_13, hx_13, h⟩ := obind_some h
    refine lxE_call hS.fr rfl rfl (by kernel_rfl) rfl (c_b64_Encode _ a1 va1 (ha1.now hS.fr).rp _ hx_13) rfl ?_
    rintro _ w ⟨rfl, hS1⟩
    have hS := hS.call hS1
    simp only [List.nil_append] at hS
    obtain ⟨x_14, hx_14, h⟩ := obind_some h
    refine lxE_v hS.fr rfl rfl (fun w hF => OpV_bin rfl rfl (G_sadd _ hx_14)) rfl ?_
    refine lxE_v hS.fr rfl rfl (fun w hF => OpV_bin rfl rfl (b_seql _ x_10 x_14)) rfl ?_
    refine lxE_v hS.fr rfl rfl (fun w hF => OpV_move rfl) rfl ?_
    cases hb_15 : (x_10 == x_14)
    case true =>
      have h := if_t h hb_15
      try simp only [hb_15]
      refine lxE_gv (t := 33) hS.fr rfl rfl rfl rfl (fun w hF => OpV_move rfl) rfl ?_
      obtain ⟨x_16, hx_16, h⟩ := obind_some h
      refine lxE_gcall (t := 33) hS.fr rfl rfl rfl rfl (by kernel_rfl) rfl (c_b64_EncodeStd _ x_7 v_8 (hS.ro 0 rfl).rp _ hx_16) rfl ?_
      rintro _ w ⟨rfl, hS1⟩
      have hS := hS.call hS1
      simp only [List.nil_append] at hS
      refine lxE_gv (t := 33) hS.fr rfl rfl rfl rfl (fun w hF => OpV_move rfl) rfl ?_
      refine lxE_gv (t := 33) hS.fr rfl rfl rfl rfl (fun w hF => OpV_move rfl) rfl ?_
      obtain ⟨x_17, hx_17, h⟩ := obind_some h
      refine lxE_gv (t := 33) hS.fr rfl rfl rfl rfl (fun w hF => G_slh Try.underlying22 ti5 rfl rfl (ha0.now hF) hx_17) rfl ?_
      obtain ⟨x_18, hx_18, h⟩ := obind_some h
      refine lxE_gcall (t := 33) hS.fr rfl rfl rfl rfl (by kernel_rfl) rfl (c_b64_EncodeStd _ x_17 (slV va0 e8.sz 0 ((x_2 : Int).toNat)) ((ha0.g_slh hx_17).now hS.fr).rp _ hx_18) rfl ?_
      rintro _ w ⟨rfl, hS1⟩
      have hS := hS.call hS1
      simp only [List.nil_append] at hS
      refine lxE_gv (t := 33) hS.fr rfl rfl rfl rfl (fun w hF => OpV_move rfl) rfl ?_
      obtain ⟨x_19, hx_19, h⟩ := obind_some h
      refine lxE_gcall (t := 33) hS.fr rfl rfl rfl rfl (by kernel_rfl) rfl (c_b64_EncodeStd _ a1 va1 (ha1.now hS.fr).rp _ hx_19) rfl ?_
      rintro _ w ⟨rfl, hS1⟩
      have hS := hS.call hS1
      simp only [List.nil_append] at hS
      obtain ⟨x_20, hx_20, h⟩ := obind_some h
      refine lxE_gv (t := 33) hS.fr rfl rfl rfl rfl (fun w hF => OpV_bin rfl rfl (G_sadd _ hx_20)) rfl ?_
      refine lxE_gv (t := 33) hS.fr rfl rfl rfl rfl (fun w hF => OpV_bin rfl rfl (b_seql _ x_16 x_20)) rfl ?_
      refine lxE_v hS.fr rfl rfl (fun w hF => OpV_pickT rfl rfl) rfl ?_
      refine lxE_v hS.fr rfl rfl (fun w hF => OpV_assign rfl) rfl ?_
      refine lxE_nil hS.fr ?_
      refine QE_then_n ?_
      refine wpC_ret ?_
      cases h
      exact QE_ret1 rfl rfl ⟨rfl, hS.pick [] (by decide) rfl⟩
    case false =>
      have h := if_f h hb_15
      try simp only [hb_15]
      refine lxE_gskip (b := false) (t := 33) hS.fr rfl rfl rfl rfl rfl rfl ?_
      refine lxE_gskipL (b := false) (t := 33) hS.fr rfl rfl rfl rfl rfl rfl ?_
      refine lxE_gskip (b := false) (t := 33) hS.fr rfl rfl rfl rfl rfl rfl ?_
      refine lxE_gskip (b := false) (t := 33) hS.fr rfl rfl rfl rfl rfl rfl ?_
      refine lxE_gskip (b := false) (t := 33) hS.fr rfl rfl rfl rfl rfl rfl ?_
      refine lxE_gskipL (b := false) (t := 33) hS.fr rfl rfl rfl rfl rfl rfl ?_
      refine lxE_gskip (b := false) (t := 33) hS.fr rfl rfl rfl rfl rfl rfl ?_
      refine lxE_gskipL (b := false) (t := 33) hS.fr rfl rfl rfl rfl rfl rfl ?_
      refine lxE_gskip (b := false) (t := 33) hS.fr rfl rfl rfl rfl rfl rfl ?_
      refine lxE_gskip (b := false) (t := 33) hS.fr rfl rfl rfl rfl rfl rfl ?_
      refine lxE_v hS.fr rfl rfl (fun w hF => OpV_pickF rfl rfl) rfl ?_
      refine lxE_v hS.fr rfl rfl (fun w hF => OpV_assign rfl) rfl ?_
      refine lxE_nil hS.fr ?_
      refine QE_then_n ?_
      refine wpC_ret ?_
      cases h
      exact QE_ret1 rfl rfl ⟨rfl, hS.pick [] (by decide) rfl⟩

theorem c_law1_B64One (w0 : World) (a0 : List UInt8) (a1 : List UInt8)   (r : Bool)
    (h : F.law1_B64One a0 a1 = some r) : Calls Try.prog 9 #[vS a0, vS a1] w0 (Ret fun v w => v = vB r ∧ St [] w0 w []) := by
  refine calls_at 117 Try.func9 rfl rfl rfl ?_
  have hS := St.start w0
  refine wpC_le [(0, vS a0), (1, vS a1)] ⟨rfl, rfl, trivial⟩ ?_
  unfold F.law1_B64One at h
  refine wpC_seq ?_
  refine wpC_region ?_
  refine wpR_v (OpV_assign rfl) rfl ?_
  refine wpR_nil ?_
  refine QE_then_n ?_
  refine wpC_seq ?_
  refine wpC_seq ?_
  refine wpC_region ?_
  obtain ⟨x_1, hx_1, h⟩ := obind_some h
  refine wpR_call (by kernel_rfl) rfl (c_law1_awake _    _ hx_1) rfl ?_
  rintro _ w ⟨rfl, hS1⟩
  have hS := hS.call hS1
  simp only [List.nil_append] at hS
  refine wpR_v (OpV_un rfl (u_not x_1)) rfl ?_
  refine wpR_nil ?_
  refine QE_then_n ?_
  refine wpC_cond rfl (fun hb_43 => ?_) (fun hb_43 => ?_)
  · have h := if_t h hb_43
    refine wpC_seq ?_
    refine wpC_region ?_
    refine wpR_v (OpV_assign rfl) rfl ?_
    refine wpR_nil ?_
    refine QE_then_n ?_
    refine wpC_ret ?_
    refine QE_then_r ?_
    cases h
    exact QE_ret1 rfl rfl ⟨rfl, hS⟩
  · have h := if_f h hb_43
    refine wpC_skip ?_
    refine QE_then_n ?_
    refine wpC_seq ?_
    refine wpC_region ?_
    refine wpR_v (OpV_move rfl) rfl ?_
    obtain ⟨x_2, hx_2, h⟩ := obind_some h
    refine wpR_call (by kernel_rfl) rfl (c_b64_Decode _ a0   _ hx_2) rfl ?_
    rintro _ w ⟨v_3, rfl, hS1⟩
    have hS := hS.call hS1
    simp only [List.cons_append, List.nil_append] at hS
    refine wpR_v (OpV_move rfl) rfl ?_
    refine wpR_v (OpV_extract rfl rfl) rfl ?_
    refine wpR_v (OpV_extract rfl rfl) rfl ?_
    refine wpR_v (OpV_extract rfl rfl) rfl ?_
    refine wpR_v (OpV_assign rfl) rfl ?_
    refine wpR_v (OpV_assign rfl) rfl ?_
    refine wpR_v (OpV_assign rfl) rfl ?_
    refine wpR_nil ?_
    refine QE_then_n ?_
    refine wpC_seq ?_
    refine seq_join (r := r) (fun (g : Bool) L w => L = [(0, vS a0), (1, vS a1), (5, v_3), (6, vI x_2.2.1), (7, vI x_2.2.2), (36, vB g)] ∧ St [] w0 w [own e8 v_3 x_2.1]) (F.law1_B64One_K1 a0 x_2 a1) ?_ ?_
    · rintro x_5 L w hJ h
      try dsimp only at hJ
      obtain ⟨rfl, hS⟩ := hJ
      unfold F.law1_B64One_K1 at h
      refine wpC_cond rfl (fun hb_39 => ?_) (fun hb_39 => ?_)
      · have h := if_t h hb_39
        refine wpC_seq ?_
        refine wpC_region ?_
        refine wpR_v (OpV_assign rfl) rfl ?_
        refine wpR_nil ?_
        refine QE_then_n ?_
        refine wpC_ret ?_
        refine QE_then_r ?_
        cases h
        exact QE_ret1 rfl rfl ⟨rfl, hS.pick [] (by decide) rfl⟩
      · have h := if_f h hb_39
        refine wpC_skip ?_
        refine QE_then_n ?_
        refine wpC_seq ?_
        refine seq_join (r := r) (fun (g : Bool) L w => L = [(0, vS a0), (1, vS a1), (5, v_3), (6, vI x_2.2.1), (53, vB g)] ∧ St [] w0 w [own e8 v_3 x_2.1]) (F.law1_B64One_K2 a0 a1 x_2) ?_ ?_
        · rintro x_7 L w hJ h
          try dsimp only at hJ
          obtain ⟨rfl, hS⟩ := hJ
          unfold F.law1_B64One_K2 at h
          refine wpC_cond rfl (fun hb_35 => ?_) (fun hb_35 => ?_)
          · have h := if_t h hb_35
            refine wpC_seq ?_
            refine wpC_region ?_
            refine wpR_v (OpV_assign rfl) rfl ?_
            refine wpR_nil ?_
            refine QE_then_n ?_
            refine wpC_ret ?_
            refine QE_then_r ?_
            cases h
            exact QE_ret1 rfl rfl ⟨rfl, hS.pick [] (by decide) rfl⟩
          · have h := if_f h hb_35
            refine wpC_skip ?_
            refine QE_then_n ?_
            refine wpC_seq ?_
            refine wpC_region ?_
            refine wpR_v (OpV_move rfl) rfl ?_
            obtain ⟨x_9, hx_9, h⟩ := obind_some h
            refine wpR_call (by kernel_rfl) rfl (c_b64_Decode _ a1   _ hx_9) rfl ?_
            rintro _ w ⟨v_10, rfl, hS1⟩
            have hS := hS.call hS1
            simp only [List.cons_append, List.nil_append] at hS
            refine wpR_v (OpV_move rfl) rfl ?_
            refine wpR_v (OpV_extract rfl rfl) rfl ?_
            refine wpR_v (OpV_extract rfl rfl) rfl ?_
            refine wpR_v (OpV_extract rfl rfl) rfl ?_
            refine wpR_v (OpV_assign rfl) rfl ?_
            refine wpR_v (OpV_assign rfl) rfl ?_
            refine wpR_v (OpV_assign rfl) rfl ?_
            refine wpR_nil ?_
            refine QE_then_n ?_
            refine wpC_seq ?_
            refine seq_join (r := r) (fun (g : Bool) L w => L = [(0, vS a0), (1, vS a1), (75, vB g)] ∧ St [] w0 w []) (F.law1_B64One_K3 a0 a1) ?_ ?_
            · rintro x_12 L w hJ h
              try dsimp only at hJ
              obtain ⟨rfl, hS⟩ := hJ
              unfold F.law1_B64One_K3 at h
              refine wpC_cond rfl (fun hb_30 => ?_) (fun hb_30 => ?_)
              · have h := if_t h hb_30
                refine wpC_seq ?_
                refine wpC_region ?_
                refine wpR_v (OpV_assign rfl) rfl ?_
                refine wpR_nil ?_
                refine QE_then_n ?_
                refine wpC_ret ?_
                refine QE_then_r ?_
                cases h
                exact QE_ret1 rfl rfl ⟨rfl, hS⟩
              · have h := if_f h hb_30
                refine wpC_skip ?_
                refine QE_then_n ?_
                refine wpC_seq ?_
                refine wpC_region ?_
                refine wpR_v (OpV_move rfl) rfl ?_
                obtain ⟨x_14, hx_14, h⟩ := obind_some h
                refine wpR_call (by kernel_rfl) rfl (c_b64_DecodeStd _ a0   _ hx_14) rfl ?_
                rintro _ w ⟨v_15, rfl, hS1⟩
                have hS := hS.call hS1
                simp only [List.cons_append, List.nil_append] at hS
                refine wpR_v (OpV_move rfl) rfl ?_
                refine wpR_v (OpV_extract rfl rfl) rfl ?_
                refine wpR_v (OpV_extract rfl rfl) rfl ?_
                refine wpR_v (OpV_extract rfl rfl) rfl ?_
                refine wpR_v (OpV_assign rfl) rfl ?_
                refine wpR_v (OpV_assign rfl) rfl ?_
                refine wpR_v (OpV_assign rfl) rfl ?_
                refine wpR_nil ?_
                refine QE_then_n ?_
                refine wpC_seq ?_
                refine seq_join (r := r) (fun (g : Bool) L w => L = [(0, vS a0), (1, vS a1), (11, v_15), (12, vI x_14.2.1), (93, vB g)] ∧ St [] w0 w [own e8 v_15 x_14.1]) (F.law1_B64One_K4 a0 a1 x_14) ?_ ?_
                · rintro x_17 L w hJ h
                  try dsimp only at hJ
                  obtain ⟨rfl, hS⟩ := hJ
                  unfold F.law1_B64One_K4 at h
                  refine wpC_cond rfl (fun hb_26 => ?_) (fun hb_26 => ?_)
                  · have h := if_t h hb_26
                    refine wpC_seq ?_
                    refine wpC_region ?_
                    refine wpR_v (OpV_assign rfl) rfl ?_
                    refine wpR_nil ?_
                    refine QE_then_n ?_
                    refine wpC_ret ?_
                    refine QE_then_r ?_
                    cases h
                    exact QE_ret1 rfl rfl ⟨rfl, hS.pick [] (by decide) rfl⟩
                  · have h := if_f h hb_26
                    refine wpC_skip ?_
                    refine QE_then_n ?_
                    refine wpC_seq ?_
                    refine wpC_region ?_
                    refine wpR_v (OpV_move rfl) rfl ?_
                    obtain ⟨x_19, hx_19, h⟩ := obind_some h
                    refine wpR_call (by kernel_rfl) rfl (c_b64_DecodeStd _ a1   _ hx_19) rfl ?_
                    rintro _ w ⟨v_20, rfl, hS1⟩
                    have hS := hS.call hS1
                    simp only [List.cons_append, List.nil_append] at hS
                    refine wpR_v (OpV_move rfl) rfl ?_
                    refine wpR_v (OpV_extract rfl rfl) rfl ?_
                    refine wpR_v (OpV_extract rfl rfl) rfl ?_
                    refine wpR_v (OpV_extract rfl rfl) rfl ?_
                    refine wpR_v (OpV_assign rfl) rfl ?_
                    refine wpR_v (OpV_assign rfl) rfl ?_
                    refine wpR_v (OpV_assign rfl) rfl ?_
                    refine wpR_nil ?_
                    refine QE_then_n ?_
                    refine wpC_seq ?_
                    refine wpC_region ?_
                    refine wpR_v (OpV_move rfl) rfl ?_
                    refine wpR_v (OpV_bin rfl rfl (b_ieql _ x_14.2.1 0)) rfl ?_
                    refine wpR_v (OpV_move rfl) rfl ?_
                    cases hb_22 : (x_14.2.1 == 0)
                    case true =>
                      have h := if_t h hb_22
                      try simp only [hb_22]
                      refine wpR_gv (t := 102) rfl rfl (OpV_move rfl) rfl ?_
                      refine wpR_gv (t := 102) rfl rfl (OpV_bin rfl rfl (b_ieql _ x_19.2.1 0)) rfl ?_
                      refine wpR_v (OpV_pickT rfl rfl) rfl ?_
                      refine wpR_v (OpV_move rfl) rfl ?_
                      cases hb_23 : (x_19.2.1 == 0)
                      case true =>
                        have h := if_t h hb_23
                        try simp only [hb_23]
                        refine wpR_gv (t := 106) rfl rfl (OpV_move rfl) rfl ?_
                        refine wpR_gv (t := 106) rfl rfl (OpV_move rfl) rfl ?_
                        obtain ⟨x_24, hx_24, h⟩ := obind_some h
                        refine wpR_gcall (t := 106) rfl rfl (by kernel_rfl) rfl (c_law1_same _ x_14.1 x_19.1 v_15 v_20 (hS.ro 1 rfl).rp (hS.ro 0 rfl).rp _ hx_24) rfl ?_
                        rintro _ w ⟨rfl, hS1⟩
                        have hS := hS.call hS1
                        simp only [List.nil_append] at hS
                        refine wpR_v (OpV_pickT rfl rfl) rfl ?_
                        refine wpR_v (OpV_move rfl) rfl ?_
                        cases hb_25 : x_24
                        case true =>
                          have h := if_t h hb_25
                          try simp only [hb_25]
                          refine wpR_gv (t := 111) rfl rfl (OpV_move rfl) rfl ?_
                          refine wpR_gv (t := 111) rfl rfl (OpV_move rfl) rfl ?_
                          refine wpR_gv (t := 111) rfl rfl (OpV_bin rfl rfl (b_sneq _ a0 a1)) rfl ?_
                          refine wpR_v (OpV_pickT rfl rfl) rfl ?_
                          refine wpR_v (OpV_un rfl (u_not (a0 != a1))) rfl ?_
                          refine wpR_v (OpV_assign rfl) rfl ?_
                          refine wpR_nil ?_
                          refine QE_then_n ?_
                          refine wpC_ret ?_
                          cases h
                          exact QE_ret1 rfl rfl ⟨rfl, hS.pick [] (by decide) rfl⟩
                        case false =>
                          have h := if_f h hb_25
                          try simp only [hb_25]
                          refine wpR_gskip (b := false) (t := 111) rfl rfl rfl rfl ?_
                          refine wpR_gskip (b := false) (t := 111) rfl rfl rfl rfl ?_
                          refine wpR_gskip (b := false) (t := 111) rfl rfl rfl rfl ?_
                          refine wpR_v (OpV_pickF rfl rfl) rfl ?_
                          refine wpR_v (OpV_un rfl (u_not false)) rfl ?_
                          refine wpR_v (OpV_assign rfl) rfl ?_
                          refine wpR_nil ?_
                          refine QE_then_n ?_
                          refine wpC_ret ?_
                          cases h
                          exact QE_ret1 rfl rfl ⟨rfl, hS.pick [] (by decide) rfl⟩
                      case false =>
                        have h := if_f h hb_23
                        try simp only [hb_23]
                        refine wpR_gskip (b := false) (t := 106) rfl rfl rfl rfl ?_
                        refine wpR_gskip (b := false) (t := 106) rfl rfl rfl rfl ?_
                        refine wpR_gskip (b := false) (t := 106) rfl rfl rfl rfl ?_
                        refine wpR_v (OpV_pickF rfl rfl) rfl ?_
                        refine wpR_v (OpV_move rfl) rfl ?_
                        refine wpR_gskip (b := false) (t := 111) rfl rfl rfl rfl ?_
                        refine wpR_gskip (b := false) (t := 111) rfl rfl rfl rfl ?_
                        refine wpR_gskip (b := false) (t := 111) rfl rfl rfl rfl ?_
                        refine wpR_v (OpV_pickF rfl rfl) rfl ?_
                        refine wpR_v (OpV_un rfl (u_not false)) rfl ?_
                        refine wpR_v (OpV_assign rfl) rfl ?_
                        refine wpR_nil ?_
                        refine QE_then_n ?_
                        refine wpC_ret ?_
                        cases h
                        exact QE_ret1 rfl rfl ⟨rfl, hS.pick [] (by decide) rfl⟩
                    case false =>
                      have h := if_f h hb_22
                      try simp only [hb_22]
                      refine wpR_gskip (b := false) (t := 102) rfl rfl rfl rfl ?_
                      refine wpR_gskip (b := false) (t := 102) rfl rfl rfl rfl ?_
                      refine wpR_v (OpV_pickF rfl rfl) rfl ?_
                      refine wpR_v (OpV_move rfl) rfl ?_
                      refine wpR_gskip (b := false) (t := 106) rfl rfl rfl rfl ?_
                      refine wpR_gskip (b := false) (t := 106) rfl rfl rfl rfl ?_
                      refine wpR_gskip (b := false) (t := 106) rfl rfl rfl rfl ?_
                      refine wpR_v (OpV_pickF rfl rfl) rfl ?_
                      refine wpR_v (OpV_move rfl) rfl ?_
                      refine wpR_gskip (b := false) (t := 111) rfl rfl rfl rfl ?_
                      refine wpR_gskip (b := false) (t := 111) rfl rfl rfl rfl ?_
                      refine wpR_gskip (b := false) (t := 111) rfl rfl rfl rfl ?_
                      refine wpR_v (OpV_pickF rfl rfl) rfl ?_
                      refine wpR_v (OpV_un rfl (u_not false)) rfl ?_
                      refine wpR_v (OpV_assign rfl) rfl ?_
                      refine wpR_nil ?_
                      refine QE_then_n ?_
                      refine wpC_ret ?_
                      cases h
                      exact QE_ret1 rfl rfl ⟨rfl, hS.pick [] (by decide) rfl⟩
                · intro hK_18
                  refine wpC_region ?_
                  refine wpR_v (OpV_move rfl) rfl ?_
                  refine wpR_v (OpV_bin rfl rfl (b_ieql _ x_14.2.1 0)) rfl ?_
                  refine wpR_v (OpV_move rfl) rfl ?_
                  cases hb_27 : (x_14.2.1 == 0)
                  case true =>
                    have h := if_t h hb_27
                    try simp only [hb_27]
                    refine wpR_gv (t := 84) rfl rfl (OpV_move rfl) rfl ?_
                    obtain ⟨x_28, hx_28, h⟩ := obind_some h
                    refine wpR_gcall (t := 84) rfl rfl (by kernel_rfl) rfl (c_b64_EncodeStd _ x_14.1 v_15 (hS.ro 0 rfl).rp _ hx_28) rfl ?_
                    rintro _ w ⟨rfl, hS1⟩
                    have hS := hS.call hS1
                    simp only [List.nil_append] at hS
                    refine wpR_gv (t := 84) rfl rfl (OpV_move rfl) rfl ?_
                    refine wpR_gv (t := 84) rfl rfl (OpV_bin rfl rfl (b_sneq _ x_28 a0)) rfl ?_
                    refine wpR_gv (t := 84) rfl rfl (OpV_move rfl) rfl ?_
                    cases hb_29 : (x_28 != a0)
                    case true =>
                      have h := if_t h hb_29
                      try simp only [hb_29]
                      refine wpR_gskip (b := true) (t := 89) rfl rfl rfl rfl ?_
                      refine wpR_gskip (b := true) (t := 89) rfl rfl rfl rfl ?_
                      refine wpR_gv (t := 84) rfl rfl (OpV_pickT rfl rfl) rfl ?_
                      refine wpR_v (OpV_pickT rfl rfl) rfl ?_
                      refine wpR_nil ?_
                      refine QE_then_n ?_
                      exact wpC_le _ (by exact ⟨rfl, rfl, rfl, rfl, rfl, trivial⟩) (hK_18 true _ _ ⟨rfl, hS⟩ h)
                    case false =>
                      have h := if_f h hb_29
                      try simp only [hb_29]
                      refine wpR_gv (t := 89) rfl rfl (OpV_move rfl) rfl ?_
                      refine wpR_gv (t := 89) rfl rfl (OpV_bin rfl rfl (b_ineq _ x_14.2.2 0)) rfl ?_
                      refine wpR_gv (t := 84) rfl rfl (OpV_pickF rfl rfl) rfl ?_
                      refine wpR_v (OpV_pickT rfl rfl) rfl ?_
                      refine wpR_nil ?_
                      refine QE_then_n ?_
                      exact wpC_le _ (by exact ⟨rfl, rfl, rfl, rfl, rfl, trivial⟩) (hK_18 (x_14.2.2 != 0) _ _ ⟨rfl, hS⟩ h)
                  case false =>
                    have h := if_f h hb_27
                    try simp only [hb_27]
                    refine wpR_gskip (b := false) (t := 84) rfl rfl rfl rfl ?_
                    refine wpR_gskip (b := false) (t := 84) rfl rfl rfl rfl ?_
                    refine wpR_gskip (b := false) (t := 84) rfl rfl rfl rfl ?_
                    refine wpR_gskip (b := false) (t := 84) rfl rfl rfl rfl ?_
                    refine wpR_gskip (b := false) (t := 84) rfl rfl rfl rfl ?_
                    refine wpR_gskipU (t := 89) rfl rfl rfl ?_
                    refine wpR_gskipU (t := 89) rfl rfl rfl ?_
                    refine wpR_gskip (b := false) (t := 84) rfl rfl rfl rfl ?_
                    refine wpR_v (OpV_pickF rfl rfl) rfl ?_
                    refine wpR_nil ?_
                    refine QE_then_n ?_
                    exact wpC_le _ (by exact ⟨rfl, rfl, rfl, rfl, rfl, trivial⟩) (hK_18 false _ _ ⟨rfl, hS⟩ h)
            · intro hK_13
              refine wpC_region ?_
              refine wpR_v (OpV_move rfl) rfl ?_
              refine wpR_v (OpV_bin rfl rfl (b_ieql _ x_2.2.1 0)) rfl ?_
              refine wpR_v (OpV_move rfl) rfl ?_
              cases hb_31 : (x_2.2.1 == 0)
              case true =>
                have h := if_t h hb_31
                try simp only [hb_31]
                refine wpR_gv (t := 62) rfl rfl (OpV_move rfl) rfl ?_
                refine wpR_gv (t := 62) rfl rfl (OpV_bin rfl rfl (b_ieql _ x_9.2.1 0)) rfl ?_
                refine wpR_v (OpV_pickT rfl rfl) rfl ?_
                refine wpR_v (OpV_move rfl) rfl ?_
                cases hb_32 : (x_9.2.1 == 0)
                case true =>
                  have h := if_t h hb_32
                  try simp only [hb_32]
                  refine wpR_gv (t := 66) rfl rfl (OpV_move rfl) rfl ?_
                  refine wpR_gv (t := 66) rfl rfl (OpV_move rfl) rfl ?_
                  obtain ⟨x_33, hx_33, h⟩ := obind_some h
                  refine wpR_gcall (t := 66) rfl rfl (by kernel_rfl) rfl (c_law1_same _ x_2.1 x_9.1 v_3 v_10 (hS.ro 1 rfl).rp (hS.ro 0 rfl).rp _ hx_33) rfl ?_
                  rintro _ w ⟨rfl, hS1⟩
                  have hS := hS.call hS1
                  simp only [List.nil_append] at hS
                  refine wpR_v (OpV_pickT rfl rfl) rfl ?_
                  refine wpR_v (OpV_move rfl) rfl ?_
                  cases hb_34 : x_33
                  case true =>
                    have h := if_t h hb_34
                    try simp only [hb_34]
                    refine wpR_gv (t := 71) rfl rfl (OpV_move rfl) rfl ?_
                    refine wpR_gv (t := 71) rfl rfl (OpV_move rfl) rfl ?_
                    refine wpR_gv (t := 71) rfl rfl (OpV_bin rfl rfl (b_sneq _ a0 a1)) rfl ?_
                    refine wpR_v (OpV_pickT rfl rfl) rfl ?_
                    refine wpR_nil ?_
                    refine QE_then_n ?_
                    exact wpC_le _ (by exact ⟨rfl, rfl, rfl, trivial⟩) (hK_13 (a0 != a1) _ _ ⟨rfl, (hS.pick [] (by decide) rfl)⟩ h)
                  case false =>
                    have h := if_f h hb_34
                    try simp only [hb_34]
                    refine wpR_gskip (b := false) (t := 71) rfl rfl rfl rfl ?_
                    refine wpR_gskip (b := false) (t := 71) rfl rfl rfl rfl ?_
                    refine wpR_gskip (b := false) (t := 71) rfl rfl rfl rfl ?_
                    refine wpR_v (OpV_pickF rfl rfl) rfl ?_
                    refine wpR_nil ?_
                    refine QE_then_n ?_
                    exact wpC_le _ (by exact ⟨rfl, rfl, rfl, trivial⟩) (hK_13 false _ _ ⟨rfl, (hS.pick [] (by decide) rfl)⟩ h)
                case false =>
                  have h := if_f h hb_32
                  try simp only [hb_32]
                  refine wpR_gskip (b := false) (t := 66) rfl rfl rfl rfl ?_
                  refine wpR_gskip (b := false) (t := 66) rfl rfl rfl rfl ?_
                  refine wpR_gskip (b := false) (t := 66) rfl rfl rfl rfl ?_
                  refine wpR_v (OpV_pickF rfl rfl) rfl ?_
                  refine wpR_v (OpV_move rfl) rfl ?_
                  refine wpR_gskip (b := false) (t := 71) rfl rfl rfl rfl ?_
                  refine wpR_gskip (b := false) (t := 71) rfl rfl rfl rfl ?_
                  refine wpR_gskip (b := false) (t := 71) rfl rfl rfl rfl ?_
                  refine wpR_v (OpV_pickF rfl rfl) rfl ?_
                  refine wpR_nil ?_
                  refine QE_then_n ?_
                  exact wpC_le _ (by exact ⟨rfl, rfl, rfl, trivial⟩) (hK_13 false _ _ ⟨rfl, (hS.pick [] (by decide) rfl)⟩ h)
              case false =>
                have h := if_f h hb_31
                try simp only [hb_31]
                refine wpR_gskip (b := false) (t := 62) rfl rfl rfl rfl ?_
                refine wpR_gskip (b := false) (t := 62) rfl rfl rfl rfl ?_
                refine wpR_v (OpV_pickF rfl rfl) rfl ?_
                refine wpR_v (OpV_move rfl) rfl ?_
                refine wpR_gskip (b := false) (t := 66) rfl rfl rfl rfl ?_
                refine wpR_gskip (b := false) (t := 66) rfl rfl rfl rfl ?_
                refine wpR_gskip (b := false) (t := 66) rfl rfl rfl rfl ?_
                refine wpR_v (OpV_pickF rfl rfl) rfl ?_
                refine wpR_v (OpV_move rfl) rfl ?_
                refine wpR_gskip (b := false) (t := 71) rfl rfl rfl rfl ?_
                refine wpR_gskip (b := false) (t := 71) rfl rfl rfl rfl ?_
                refine wpR_gskip (b := false) (t := 71) rfl rfl rfl rfl ?_
                refine wpR_v (OpV_pickF rfl rfl) rfl ?_
                refine wpR_nil ?_
                refine QE_then_n ?_
                exact wpC_le _ (by exact ⟨rfl, rfl, rfl, trivial⟩) (hK_13 false _ _ ⟨rfl, (hS.pick [] (by decide) rfl)⟩ h)
        · intro hK_8
          refine wpC_region ?_
          refine wpR_v (OpV_move rfl) rfl ?_
          refine wpR_v (OpV_bin rfl rfl (b_ineq _ x_2.2.1 0)) rfl ?_
          refine wpR_v (OpV_move rfl) rfl ?_
          cases hb_36 : (x_2.2.1 != 0)
          case true =>
            have h := if_t h hb_36
            try simp only [hb_36]
            refine wpR_gv (t := 39) rfl rfl (OpV_move rfl) rfl ?_
            refine wpR_gv (t := 39) rfl rfl (OpV_len Try.underlying22 rfl (hS.ro 0 rfl)) rfl ?_
            refine wpR_gv (t := 39) rfl rfl (OpV_bin rfl rfl (b_ineq _ (x_2.1.length : Int) 0)) rfl ?_
            refine wpR_gv (t := 39) rfl rfl (OpV_move rfl) rfl ?_
            cases hb_37 : ((x_2.1.length : Int) != 0)
            case true =>
              have h := if_t h hb_37
              try simp only [hb_37]
              refine wpR_gskip (b := true) (t := 43) rfl rfl rfl rfl ?_
              refine wpR_gskip (b := true) (t := 43) rfl rfl rfl rfl ?_
              refine wpR_gv (t := 39) rfl rfl (OpV_pickT rfl rfl) rfl ?_
              refine wpR_gv (t := 39) rfl rfl (OpV_move rfl) rfl ?_
              refine wpR_gskip (b := true) (t := 47) rfl rfl rfl rfl ?_
              refine wpR_gskip (b := true) (t := 47) rfl rfl rfl rfl ?_
              refine wpR_gskip (b := true) (t := 47) rfl rfl rfl rfl ?_
              refine wpR_gskip (b := true) (t := 47) rfl rfl rfl rfl ?_
              refine wpR_gv (t := 39) rfl rfl (OpV_pickT rfl rfl) rfl ?_
              refine wpR_v (OpV_pickT rfl rfl) rfl ?_
              refine wpR_nil ?_
              refine QE_then_n ?_
              exact wpC_le _ (by exact ⟨rfl, rfl, rfl, rfl, rfl, trivial⟩) (hK_8 true _ _ ⟨rfl, hS⟩ h)
            case false =>
              have h := if_f h hb_37
              try simp only [hb_37]
              refine wpR_gv (t := 43) rfl rfl (OpV_move rfl) rfl ?_
              refine wpR_gv (t := 43) rfl rfl (OpV_bin rfl rfl (b_ilss _ x_2.2.2 0)) rfl ?_
              refine wpR_gv (t := 39) rfl rfl (OpV_pickF rfl rfl) rfl ?_
              refine wpR_gv (t := 39) rfl rfl (OpV_move rfl) rfl ?_
              cases hb_38 : (decide (x_2.2.2 < 0))
              case true =>
                have h := if_t h hb_38
                try simp only [hb_38]
                refine wpR_gskip (b := true) (t := 47) rfl rfl rfl rfl ?_
                refine wpR_gskip (b := true) (t := 47) rfl rfl rfl rfl ?_
                refine wpR_gskip (b := true) (t := 47) rfl rfl rfl rfl ?_
                refine wpR_gskip (b := true) (t := 47) rfl rfl rfl rfl ?_
                refine wpR_gv (t := 39) rfl rfl (OpV_pickT rfl rfl) rfl ?_
                refine wpR_v (OpV_pickT rfl rfl) rfl ?_
                refine wpR_nil ?_
                refine QE_then_n ?_
                exact wpC_le _ (by exact ⟨rfl, rfl, rfl, rfl, rfl, trivial⟩) (hK_8 true _ _ ⟨rfl, hS⟩ h)
              case false =>
                have h := if_f h hb_38
                try simp only [hb_38]
                refine wpR_gv (t := 47) rfl rfl (OpV_move rfl) rfl ?_
                refine wpR_gv (t := 47) rfl rfl (OpV_move rfl) rfl ?_
                refine wpR_gv (t := 47) rfl rfl (OpV_lenS Try.underlying9 rfl) rfl ?_
                refine wpR_gv (t := 47) rfl rfl (OpV_bin rfl rfl (b_igtr _ x_2.2.2 (a0.length : Int))) rfl ?_
                refine wpR_gv (t := 39) rfl rfl (OpV_pickF rfl rfl) rfl ?_
                refine wpR_v (OpV_pickT rfl rfl) rfl ?_
                refine wpR_nil ?_
                refine QE_then_n ?_
                exact wpC_le _ (by exact ⟨rfl, rfl, rfl, rfl, rfl, trivial⟩) (hK_8 (decide ((a0.length : Int) < x_2.2.2)) _ _ ⟨rfl, hS⟩ h)
          case false =>
            have h := if_f h hb_36
            try simp only [hb_36]
            refine wpR_gskip (b := false) (t := 39) rfl rfl rfl rfl ?_
            refine wpR_gskip (b := false) (t := 39) rfl rfl rfl rfl ?_
            refine wpR_gskip (b := false) (t := 39) rfl rfl rfl rfl ?_
            refine wpR_gskip (b := false) (t := 39) rfl rfl rfl rfl ?_
            refine wpR_gskipU (t := 43) rfl rfl rfl ?_
            refine wpR_gskipU (t := 43) rfl rfl rfl ?_
            refine wpR_gskip (b := false) (t := 39) rfl rfl rfl rfl ?_
            refine wpR_gskip (b := false) (t := 39) rfl rfl rfl rfl ?_
            refine wpR_gskipU (t := 47) rfl rfl rfl ?_
            refine wpR_gskipU (t := 47) rfl rfl rfl ?_
            refine wpR_gskipU (t := 47) rfl rfl rfl ?_
            refine wpR_gskipU (t := 47) rfl rfl rfl ?_
            refine wpR_gskip (b := false) (t := 39) rfl rfl rfl rfl ?_
            refine wpR_v (OpV_pickF rfl rfl) rfl ?_
            refine wpR_nil ?_
            refine QE_then_n ?_
            exact wpC_le _ (by exact ⟨rfl, rfl, rfl, rfl, rfl, trivial⟩) (hK_8 false _ _ ⟨rfl, hS⟩ h)
    · intro hK_6
      refine wpC_region ?_
      refine wpR_v (OpV_move rfl) rfl ?_
      refine wpR_v (OpV_bin rfl rfl (b_ieql _ x_2.2.1 0)) rfl ?_
      refine wpR_v (OpV_move rfl) rfl ?_
      cases hb_40 : (x_2.2.1 == 0)
      case true =>
        have h := if_t h hb_40
        try simp only [hb_40]
        refine wpR_gv (t := 27) rfl rfl (OpV_move rfl) rfl ?_
        obtain ⟨x_41, hx_41, h⟩ := obind_some h
        refine wpR_gcall (t := 27) rfl rfl (by kernel_rfl) rfl (c_b64_Encode _ x_2.1 v_3 (hS.ro 0 rfl).rp _ hx_41) rfl ?_
        rintro _ w ⟨rfl, hS1⟩
        have hS := hS.call hS1
        simp only [List.nil_append] at hS
        refine wpR_gv (t := 27) rfl rfl (OpV_move rfl) rfl ?_
        refine wpR_gv (t := 27) rfl rfl (OpV_bin rfl rfl (b_sneq _ x_41 a0)) rfl ?_
        refine wpR_gv (t := 27) rfl rfl (OpV_move rfl) rfl ?_
        cases hb_42 : (x_41 != a0)
        case true =>
          have h := if_t h hb_42
          try simp only [hb_42]
          refine wpR_gskip (b := true) (t := 32) rfl rfl rfl rfl ?_
          refine wpR_gskip (b := true) (t := 32) rfl rfl rfl rfl ?_
          refine wpR_gv (t := 27) rfl rfl (OpV_pickT rfl rfl) rfl ?_
          refine wpR_v (OpV_pickT rfl rfl) rfl ?_
          refine wpR_nil ?_
          refine QE_then_n ?_
          exact wpC_le _ (by exact ⟨rfl, rfl, rfl, rfl, rfl, rfl, trivial⟩) (hK_6 true _ _ ⟨rfl, hS⟩ h)
        case false =>
          have h := if_f h hb_42
          try simp only [hb_42]
          refine wpR_gv (t := 32) rfl rfl (OpV_move rfl) rfl ?_
          refine wpR_gv (t := 32) rfl rfl (OpV_bin rfl rfl (b_ineq _ x_2.2.2 0)) rfl ?_
          refine wpR_gv (t := 27) rfl rfl (OpV_pickF rfl rfl) rfl ?_
          refine wpR_v (OpV_pickT rfl rfl) rfl ?_
          refine wpR_nil ?_
          refine QE_then_n ?_
          exact wpC_le _ (by exact ⟨rfl, rfl, rfl, rfl, rfl, rfl, trivial⟩) (hK_6 (x_2.2.2 != 0) _ _ ⟨rfl, hS⟩ h)
      case false =>
        have h := if_f h hb_40
        try simp only [hb_40]
        refine wpR_gskip (b := false) (t := 27) rfl rfl rfl rfl ?_
        refine wpR_gskip (b := false) (t := 27) rfl rfl rfl rfl ?_
        refine wpR_gskip (b := false) (t := 27) rfl rfl rfl rfl ?_
        refine wpR_gskip (b := false) (t := 27) rfl rfl rfl rfl ?_
        refine wpR_gskip (b := false) (t := 27) rfl rfl rfl rfl ?_
        refine wpR_gskipU (t := 32) rfl rfl rfl ?_
        refine wpR_gskipU (t := 32) rfl rfl rfl ?_
        refine wpR_gskip (b := false) (t := 27) rfl rfl rfl rfl ?_
        refine wpR_v (OpV_pickF rfl rfl) rfl ?_
        refine wpR_nil ?_
        refine QE_then_n ?_
        exact wpC_le _ (by exact ⟨rfl, rfl, rfl, rfl, rfl, rfl, trivial⟩) (hK_6 false _ _ ⟨rfl, hS⟩ h)
end Go.Proofs
