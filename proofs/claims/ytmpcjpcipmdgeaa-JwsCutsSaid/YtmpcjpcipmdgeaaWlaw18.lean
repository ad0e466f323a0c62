/- Walks: each Go function of package law18 computes its plain function. Written by a program of ours. -/
import Derived.Test.YtmpcjpcipmdgeaaW0
import Derived.Test.YtmpcjpcipmdgeaaGkFlaw18
import Derived.Test.YtmpcjpcipmdgeaaWjws
import Derived.Test.YtmpcjpcipmdgeaaWref18
set_option linter.unusedVariables false
set_option maxRecDepth 4000
namespace Go.Proofs
open Go Go.RowKit Go.Gk

theorem c_law18_same (w0 : World) (a0 : List UInt8) (a1 : List UInt8) (va0 : Value) (va1 : Value) (ha0 : RP [] w0 e8 va0 a0) (ha1 : RP [] w0 e8 va1 a1) (r : Bool)
    (h : F.law18_same a0 a1 = some r) : Calls Try.prog 8 #[va0, va1] w0 (Ret fun v w => v = vB r ∧ St [] w0 w []) := by
  refine calls_at 26 Try.func8 rfl rfl rfl ?_
  have hS := St.start w0
  refine wpC_le [(0, va0), (1, va1)] ⟨rfl, rfl, trivial⟩ ?_
  unfold F.law18_same at h
  refine wpC_seq ?_
  refine wpC_region ?_
  refine wpR_v (OpV_assign rfl) rfl ?_
  refine wpR_nil ?_
  refine QE_then_n ?_
  refine wpC_seq ?_
  refine wpC_seq ?_
  refine wpC_region ?_
  refine wpR_v (OpV_move rfl) rfl ?_
  refine wpR_v (OpV_len Try.underlying22 rfl (ha0.now hS.fr)) rfl ?_
  refine wpR_v (OpV_move rfl) rfl ?_
  refine wpR_v (OpV_len Try.underlying22 rfl (ha1.now hS.fr)) rfl ?_
  refine wpR_v (OpV_bin rfl rfl (b_ineq _ (a0.length : Int) (a1.length : Int))) rfl ?_
  refine wpR_nil ?_
  refine QE_then_n ?_
  refine wpC_cond rfl (fun hb_10 => ?_) (fun hb_10 => ?_)
  · have h := if_t h hb_10
    refine wpC_seq ?_
    refine wpC_region ?_
    refine wpR_v (OpV_assign rfl) rfl ?_
    refine wpR_nil ?_
    refine QE_then_n ?_
    refine wpC_ret ?_
    refine QE_then_r ?_
    cases h
    exact QE_ret1 rfl rfl ⟨rfl, hS⟩
  · have h := if_f h hb_10
    refine wpC_skip ?_
    refine QE_then_n ?_
    refine wpC_seq ?_
    refine wpC_seq ?_
    refine wpC_region ?_
    refine wpR_v (OpV_assign rfl) rfl ?_
    refine wpR_nil ?_
    refine QE_then_n ?_
    refine wpC_block ?_
    refine wpC_le [(0, va0), (1, va1), (5, vI 0)] ⟨rfl, rfl, rfl, trivial⟩ ?_
    refine loop_ind (F.law18_same_L1 a0 a1) (fun (s : Int) L w => L = [(0, va0), (1, va1), (5, vI s)] ∧ St [] w0 w []) ?_ 0 ⟨rfl, hS⟩ h
    rintro k_9 x_1 L w q_4 hI ih_3 h hk_2
    try dsimp only at hI
    obtain ⟨rfl, hS⟩ := hI
    unfold F.law18_same_L1 at h
    refine wpC_seq ?_
    refine wpC_seq ?_
    refine wpC_region ?_
    refine wpR_v (OpV_move rfl) rfl ?_
    refine wpR_v (OpV_move rfl) rfl ?_
    refine wpR_v (OpV_len Try.underlying22 rfl (ha0.now hS.fr)) rfl ?_
    refine wpR_v (OpV_bin rfl rfl (b_ilss _ x_1 (a0.length : Int))) rfl ?_
    refine wpR_nil ?_
    refine QE_then_n ?_
    refine wpC_cond rfl (fun hb_8 => ?_) (fun hb_8 => ?_)
    · have h := if_t h hb_8
      refine wpC_skip ?_
      refine QE_then_n ?_
      refine wpC_seq ?_
      refine wpC_block ?_
      refine wpC_seq ?_
      refine wpC_regionT (fun w' => St [] w0 w' []) (fun _ => true) hmix (fun _ _ _ hf => hf.2) (fun _ _ hf => hf) (by kernel_rfl) ?_
      have hS := hS.drew
      show lxE _ _ _ _ _ _ [0, 1, 2, 3, 4, 5, 6, 7, 8] _ _
      refine lxE_v hS rfl rfl (fun w hS => OpV_move rfl) rfl ?_
      refine lxE_v hS rfl rfl (fun w hS => OpV_move rfl) rfl ?_
      obtain ⟨x_5, hx_5, h⟩ := obind_some h
      refine lxE_v hS rfl rfl (fun w hS => G_ix Try.underlying22 ti5 rfl rfl (ha0.now hS.fr) hx_5) rfl ?_
      refine lxE_v hS rfl rfl (fun w hS => G_load Try.underlying5 rfl rfl (ha0.now hS.fr) hx_5 rfl) rfl ?_
      refine lxE_v hS rfl rfl (fun w hS => OpV_move rfl) rfl ?_
      refine lxE_v hS rfl rfl (fun w hS => OpV_move rfl) rfl ?_
      obtain ⟨x_6, hx_6, h⟩ := obind_some h
      refine lxE_v hS rfl rfl (fun w hS => G_ix Try.underlying22 ti5 rfl rfl (ha1.now hS.fr) hx_6) rfl ?_
      refine lxE_v hS rfl rfl (fun w hS => G_load Try.underlying5 rfl rfl (ha1.now hS.fr) hx_6 rfl) rfl ?_
      refine lxE_v hS rfl rfl (fun w hS => OpV_bin rfl rfl (b_neq8 _ x_5 x_6)) rfl ?_
      refine lxE_nil hS ?_
      refine QE_then_n ?_
      refine wpC_cond rfl (fun hb_7 => ?_) (fun hb_7 => ?_)
      · have h := if_t h hb_7
        refine wpC_seq ?_
        refine wpC_region ?_
        refine wpR_v (OpV_assign rfl) rfl ?_
        refine wpR_nil ?_
        refine QE_then_n ?_
        refine wpC_ret ?_
        refine QE_blk_r ?_
        refine QE_then_r ?_
        refine QE_then_r ?_
        have h := oinr_some h hk_2
        refine QE_blk_r ?_
        refine QE_then_r ?_
        cases h
        exact QE_ret1 rfl rfl ⟨rfl, hS⟩
      · have h := if_f h hb_7
        refine wpC_skip ?_
        refine QE_blk_n ?_
        refine QE_then_n ?_
        refine wpC_region ?_
        refine wpR_v (OpV_move rfl) rfl ?_
        refine wpR_v (OpV_bin rfl rfl (b_iadd _ x_1 1)) rfl ?_
        refine wpR_v (OpV_assign rfl) rfl ?_
        refine wpR_nil ?_
        exact QE_rnd (wpN_le _ (by exact ⟨rfl, rfl, rfl, trivial⟩) (ih_3 (wI (x_1 + 1)) _ _ ⟨rfl, hS⟩ (oinl_some h hk_2)))
    · have h := if_f h hb_8
      refine wpC_exit ?_
      refine QE_then_x ?_
      refine QE_then_x ?_
      have h := oinr_some h hk_2
      refine QE_blk_x ?_
      refine QE_then_n ?_
      refine wpC_seq ?_
      refine wpC_region ?_
      refine wpR_v (OpV_assign rfl) rfl ?_
      refine wpR_nil ?_
      refine QE_then_n ?_
      refine wpC_ret ?_
      cases h
      exact QE_ret1 rfl rfl ⟨rfl, hS⟩

theorem c_law18_lent (w0 : World) (a0 : List UInt8) (va0 : Value) (ha0 : RP [] w0 e8 va0 a0) (r : (List UInt8 × Nat))
    (h : F.law18_lent a0 = some r) : Calls Try.prog 9 #[va0] w0 (Ret fun v w => ∃ u0 : Value, v = slV u0 e8.sz 0 r.2 ∧ r.2 ≤ r.1.length ∧ St [] w0 w [own e8 u0 r.1]) := by
  refine calls_at 19 Try.func9 rfl rfl rfl ?_
  have hS := St.start w0
  refine wpC_le [(0, va0)] ⟨rfl, trivial⟩ ?_
  unfold F.law18_lent at h
  refine wpC_seq ?_
  refine wpC_region ?_
  refine wpR_v (OpV_assign rfl) rfl ?_
  refine wpR_nil ?_
  refine QE_then_n ?_
  refine wpC_seq ?_
  refine wpC_region ?_
  refine wpR_v (OpV_assign rfl) rfl ?_
  refine wpR_nil ?_
  refine QE_then_n ?_
  refine wpC_seq ?_
  refine wpC_region ?_
  refine wpR_v (OpV_move rfl) rfl ?_
  refine wpR_v (OpV_move rfl) rfl ?_
  obtain ⟨x_1, hx_1, h⟩ := obind_some h
  refine wpR_x (G_append0 Try.underlying22 ti5 rfl rfl rfl hS (ha0.now hS.fr) hx_1) rfl ?_
  rintro v_2 w hS
  refine wpR_v (OpV_assign rfl) rfl ?_
  refine wpR_nil ?_
  refine QE_then_n ?_
  refine wpC_seq ?_
  refine wpC_seq ?_
  refine wpC_region ?_
  refine wpR_v (OpV_assign rfl) rfl ?_
  refine wpR_nil ?_
  refine QE_then_n ?_
  refine wpC_block ?_
  refine wpC_le [(0, va0), (3, v_2), (4, vI 0)] ⟨rfl, rfl, rfl, trivial⟩ ?_
  refine loop_ind (F.law18_lent_L1 a0) (fun (s : List UInt8 × Int) L w => ∃ v_5 : Value, L = [(0, va0), (3, v_5), (4, vI s.2)] ∧ St [] w0 w [own e8 v_5 s.1]) ?_ (x_1, 0) ⟨v_2, rfl, hS⟩ h
  rintro k_18 ⟨x_4, x_7⟩ L w q_10 hI ih_9 h hk_8
  try dsimp only at hI
  obtain ⟨v_5, rfl, hS⟩ := hI
  unfold F.law18_lent_L1 at h
  refine wpC_seq ?_
  refine wpC_seq ?_
  refine wpC_region ?_
  refine wpR_v (OpV_move rfl) rfl ?_
  refine wpR_v (OpV_bin rfl rfl (b_ilss _ x_7 40)) rfl ?_
  refine wpR_nil ?_
  refine QE_then_n ?_
  refine wpC_cond rfl (fun hb_17 => ?_) (fun hb_17 => ?_)
  · have h := if_t h hb_17
    refine wpC_skip ?_
    refine QE_then_n ?_
    refine wpC_seq ?_
    refine wpC_block ?_
    refine wpC_region ?_
    refine wpR_v (OpV_move rfl) rfl ?_
    refine wpR_x (OpX_lit (e := e8) (l := [165]) (vs := [v8 165]) Try.underlying22 ti5 rfl rfl rfl rfl (by decide) (by decide) hS) rfl ?_
    rintro v_11 w hS
    obtain ⟨x_13, hx_13, h⟩ := obind_some h
    refine wpR_x (G_append Try.underlying22 ti5 rfl rfl rfl hS (i := 1) rfl (hS.ro 0 rfl) hx_13) rfl ?_
    rintro v_14 w hS
    refine wpR_v (OpV_assign rfl) rfl ?_
    refine wpR_nil ?_
    refine QE_blk_n ?_
    refine QE_then_n ?_
    refine wpC_region ?_
    refine wpR_v (OpV_move rfl) rfl ?_
    refine wpR_v (OpV_bin rfl rfl (b_iadd _ x_7 1)) rfl ?_
    refine wpR_v (OpV_assign rfl) rfl ?_
    refine wpR_nil ?_
    exact QE_rnd (wpN_le _ (by exact ⟨rfl, rfl, rfl, trivial⟩) (ih_9 (x_13, wI (x_7 + 1)) _ _ ⟨v_14, rfl, (hS.pick [1] (by decide) rfl)⟩ (oinl_some h hk_8)))
  · have h := if_f h hb_17
    refine wpC_exit ?_
    refine QE_then_x ?_
    refine QE_then_x ?_
    have h := oinr_some h hk_8
    refine QE_blk_x ?_
    refine QE_then_n ?_
    refine wpC_seq ?_
    refine wpC_region ?_
    refine wpR_v (OpV_move rfl) rfl ?_
    refine wpR_v (OpV_move rfl) rfl ?_
    refine wpR_v (OpV_len Try.underlying22 rfl (ha0.now hS.fr)) rfl ?_
    obtain ⟨hg_16, h⟩ := grd_some h
    refine wpR_v (G_slh Try.underlying22 ti5 rfl rfl (hS.ro 0 rfl) (tkO_of hg_16)) rfl ?_
    refine wpR_v (OpV_assign rfl) rfl ?_
    refine wpR_nil ?_
    refine QE_then_n ?_
    refine wpC_ret ?_
    cases h
    exact QE_ret1 rfl rfl ⟨v_5, rfl, hg_16.2, hS.pick [0] (by decide) rfl⟩

theorem c_law18_still (w0 : World) (a0 : List UInt8) (k0 : Nat) (a1 : List UInt8) (va0 : Value) (va1 : Value) (ha0 : RP [] w0 e8 va0 a0) (hk0 : k0 ≤ a0.length) (ha1 : RP [] w0 e8 va1 a1) (r : Bool)
    (h : F.law18_still a0 k0 a1 = some r) : Calls Try.prog 12 #[slV va0 e8.sz 0 k0, va1] w0 (Ret fun v w => v = vB r ∧ St [] w0 w []) := by
  refine calls_at 51 Try.func12 rfl rfl rfl ?_
  have hS := St.start w0
  refine wpC_le [(0, slV va0 e8.sz 0 k0), (1, va1)] ⟨rfl, rfl, trivial⟩ ?_
  unfold F.law18_still at h
  refine wpC_seq ?_
  refine wpC_region ?_
  refine wpR_v (OpV_assign rfl) rfl ?_
  refine wpR_nil ?_
  refine QE_then_n ?_
  refine wpC_seq ?_
  refine wpC_seq ?_
  refine wpC_region ?_
  refine wpR_v (OpV_move rfl) rfl ?_
  refine wpR_v (OpV_len Try.underlying22 rfl ((ha0.now hS.fr).tk hk0)) rfl ?_
  refine wpR_v (OpV_move rfl) rfl ?_
  refine wpR_v (OpV_len Try.underlying22 rfl (ha1.now hS.fr)) rfl ?_
  refine wpR_v (OpV_bin rfl rfl (b_ineq _ ((a0.take k0).length : Int) (a1.length : Int))) rfl ?_
  refine wpR_nil ?_
  refine QE_then_n ?_
  refine wpC_cond rfl (fun hb_19 => ?_) (fun hb_19 => ?_)
  · have h := if_t h hb_19
    refine wpC_seq ?_
    refine wpC_region ?_
    refine wpR_v (OpV_assign rfl) rfl ?_
    refine wpR_nil ?_
    refine QE_then_n ?_
    refine wpC_ret ?_
    refine QE_then_r ?_
    cases h
    exact QE_ret1 rfl rfl ⟨rfl, hS⟩
  · have h := if_f h hb_19
    refine wpC_skip ?_
    refine QE_then_n ?_
    refine wpC_seq ?_
    refine wpC_region ?_
    refine wpR_v (OpV_move rfl) rfl ?_
    refine wpR_v (OpV_move rfl) rfl ?_
    refine wpR_v (OpV_len Try.underlying22 rfl (ha1.now hS.fr)) rfl ?_
    refine wpR_v (OpV_bin rfl rfl (b_iadd _ (a1.length : Int) 40)) rfl ?_
    obtain ⟨hg_1, h⟩ := grd_some h
    refine wpR_v (G_slh_room Try.underlying22 ti5 rfl rfl (ha0.now hS.fr) (tkO_of hg_1)) rfl ?_
    refine wpR_v (OpV_assign rfl) rfl ?_
    refine wpR_nil ?_
    refine QE_then_n ?_
    refine wpC_seq ?_
    refine wpC_seq ?_
    refine wpC_region ?_
    refine wpR_v (OpV_assign rfl) rfl ?_
    refine wpR_nil ?_
    refine QE_then_n ?_
    refine wpC_block ?_
    refine wpC_le [(1, va1), (5, slV va0 e8.sz 0 ((wI ((a1.length : Int) + 40) : Int).toNat)), (6, vI 0)] ⟨rfl, rfl, rfl, trivial⟩ ?_
    refine loop_ind (F.law18_still_L1 a0 a1) (fun (s : Int) L w => L = [(1, va1), (5, slV va0 e8.sz 0 ((wI ((a1.length : Int) + 40) : Int).toNat)), (6, vI s)] ∧ St [] w0 w []) ?_ 0 ⟨rfl, hS⟩ h
    rintro k_18 x_2 L w q_5 hI ih_4 h hk_3
    try dsimp only at hI
    obtain ⟨rfl, hS⟩ := hI
    unfold F.law18_still_L1 at h
    refine wpC_seq ?_
    refine wpC_seq ?_
    refine wpC_region ?_
    refine wpR_v (OpV_move rfl) rfl ?_
    refine wpR_v (OpV_move rfl) rfl ?_
    refine wpR_v (OpV_len Try.underlying22 rfl ((ha0.now hS.fr).tk hg_1.2)) rfl ?_
    refine wpR_v (OpV_bin rfl rfl (b_ilss _ x_2 ((a0.take ((wI ((a1.length : Int) + 40) : Int).toNat)).length : Int))) rfl ?_
    refine wpR_nil ?_
    refine QE_then_n ?_
    refine wpC_cond rfl (fun hb_17 => ?_) (fun hb_17 => ?_)
    · have h := if_t h hb_17
      refine wpC_skip ?_
      refine QE_then_n ?_
      refine wpC_seq ?_
      refine wpC_block ?_
      refine seq_join (r := q_5) (fun (g : Bool) L w => L = [(1, va1), (5, slV va0 e8.sz 0 ((wI ((a1.length : Int) + 40) : Int).toNat)), (6, vI x_2), (50, vB g)] ∧ St [] w0 w []) (F.law18_still_K1 x_2) ?_ ?_
      · rintro x_6 L w hJ h
        try dsimp only at hJ
        obtain ⟨rfl, hS⟩ := hJ
        unfold F.law18_still_K1 at h
        refine wpC_cond rfl (fun hb_8 => ?_) (fun hb_8 => ?_)
        · have h := if_t h hb_8
          refine wpC_seq ?_
          refine wpC_region ?_
          refine wpR_v (OpV_assign rfl) rfl ?_
          refine wpR_nil ?_
          refine QE_then_n ?_
          refine wpC_ret ?_
          refine QE_blk_r ?_
          refine QE_then_r ?_
          refine QE_then_r ?_
          have h := oinr_some h hk_3
          refine QE_blk_r ?_
          refine QE_then_r ?_
          cases h
          exact QE_ret1 rfl rfl ⟨rfl, hS⟩
        · have h := if_f h hb_8
          refine wpC_skip ?_
          refine QE_blk_n ?_
          refine QE_then_n ?_
          refine wpC_region ?_
          refine wpR_v (OpV_move rfl) rfl ?_
          refine wpR_v (OpV_bin rfl rfl (b_iadd _ x_2 1)) rfl ?_
          refine wpR_v (OpV_assign rfl) rfl ?_
          refine wpR_nil ?_
          exact QE_rnd (wpN_le _ (by exact ⟨rfl, rfl, rfl, trivial⟩) (ih_4 (wI (x_2 + 1)) _ _ ⟨rfl, hS⟩ (oinl_some h hk_3)))
      · intro hK_7
        refine wpC_regionT (fun w' => St [] w0 w' []) (fun _ => true) hmix (fun _ _ _ hf => hf.2) (fun _ _ hf => hf) (by kernel_rfl) ?_
        have hS := hS.drew
        show lxE _ _ _ _ _ _ [0, 1, 2, 3, 4, 5, 6, 7, 8, 9, 10, 11, 12, 13, 14, 15, 16, 17, 18, 19, 20, 21, 22, 23, 24, 25, 26, 27] _ _
        refine lxE_v hS rfl rfl (fun w hS => OpV_move rfl) rfl ?_
        refine lxE_v hS rfl rfl (fun w hS => OpV_move rfl) rfl ?_
        refine lxE_v hS rfl rfl (fun w hS => OpV_len Try.underlying22 rfl (ha1.now hS.fr)) rfl ?_
        refine lxE_v hS rfl rfl (fun w hS => OpV_bin rfl rfl (b_ilss _ x_2 (a1.length : Int))) rfl ?_
        refine lxE_v hS rfl rfl (fun w hS => OpV_move rfl) rfl ?_
        cases hb_9 : (decide (x_2 < (a1.length : Int)))
        case true =>
          have h := if_t h hb_9
          try simp only [hb_9]
          refine lxE_gv (t := 27) hS rfl rfl rfl rfl (fun w hS => OpV_move rfl) rfl ?_
          refine lxE_gv (t := 27) hS rfl rfl rfl rfl (fun w hS => OpV_move rfl) rfl ?_
          obtain ⟨x_10, hx_10, h⟩ := obind_some h
          refine lxE_gv (t := 27) hS rfl rfl rfl rfl (fun w hS => G_ix_room Try.underlying22 ti5 rfl rfl (ha0.now hS.fr) hg_1.2 hx_10) rfl ?_
          refine lxE_gv (t := 27) hS rfl rfl rfl rfl (fun w hS => G_load Try.underlying5 rfl rfl (ha0.now hS.fr) (getO_take hx_10) rfl) rfl ?_
          refine lxE_gv (t := 27) hS rfl rfl rfl rfl (fun w hS => OpV_move rfl) rfl ?_
          refine lxE_gv (t := 27) hS rfl rfl rfl rfl (fun w hS => OpV_move rfl) rfl ?_
          obtain ⟨x_11, hx_11, h⟩ := obind_some h
          refine lxE_gv (t := 27) hS rfl rfl rfl rfl (fun w hS => G_ix Try.underlying22 ti5 rfl rfl (ha1.now hS.fr) hx_11) rfl ?_
          refine lxE_gv (t := 27) hS rfl rfl rfl rfl (fun w hS => G_load Try.underlying5 rfl rfl (ha1.now hS.fr) hx_11 rfl) rfl ?_
          refine lxE_gv (t := 27) hS rfl rfl rfl rfl (fun w hS => OpV_bin rfl rfl (b_neq8 _ x_10 x_11)) rfl ?_
          refine lxE_v hS rfl rfl (fun w hS => OpV_pickT rfl rfl) rfl ?_
          refine lxE_v hS rfl rfl (fun w hS => OpV_move rfl) rfl ?_
          cases hb_12 : (x_10 != x_11)
          case true =>
            have h := if_t h hb_12
            try simp only [hb_12]
            refine lxE_gskip (b := true) (t := 38) hS rfl rfl rfl rfl rfl rfl ?_
            refine lxE_gskip (b := true) (t := 38) hS rfl rfl rfl rfl rfl rfl ?_
            refine lxE_gskip (b := true) (t := 38) hS rfl rfl rfl rfl rfl rfl ?_
            refine lxE_gskip (b := true) (t := 38) hS rfl rfl rfl rfl rfl rfl ?_
            refine lxE_gskip (b := true) (t := 38) hS rfl rfl rfl rfl rfl rfl ?_
            refine lxE_gskipU (t := 43) hS rfl rfl rfl rfl rfl ?_
            refine lxE_gskipU (t := 43) hS rfl rfl rfl rfl rfl ?_
            refine lxE_gskipU (t := 43) hS rfl rfl rfl rfl rfl ?_
            refine lxE_gskipU (t := 43) hS rfl rfl rfl rfl rfl ?_
            refine lxE_gskipU (t := 43) hS rfl rfl rfl rfl rfl ?_
            refine lxE_gskip (b := true) (t := 38) hS rfl rfl rfl rfl rfl rfl ?_
            refine lxE_v hS rfl rfl (fun w hS => OpV_pickT rfl rfl) rfl ?_
            refine lxE_nil hS ?_
            refine QE_then_n ?_
            exact wpC_le _ (by exact ⟨rfl, rfl, rfl, rfl, trivial⟩) (hK_7 true _ _ ⟨rfl, hS⟩ h)
          case false =>
            have h := if_f h hb_12
            try simp only [hb_12]
            refine lxE_gv (t := 38) hS rfl rfl rfl rfl (fun w hS => OpV_move rfl) rfl ?_
            refine lxE_gv (t := 38) hS rfl rfl rfl rfl (fun w hS => OpV_move rfl) rfl ?_
            refine lxE_gv (t := 38) hS rfl rfl rfl rfl (fun w hS => OpV_len Try.underlying22 rfl (ha1.now hS.fr)) rfl ?_
            refine lxE_gv (t := 38) hS rfl rfl rfl rfl (fun w hS => OpV_bin rfl rfl (b_igeq _ x_2 (a1.length : Int))) rfl ?_
            refine lxE_gv (t := 38) hS rfl rfl rfl rfl (fun w hS => OpV_move rfl) rfl ?_
            cases hb_13 : (decide ((a1.length : Int) ≤ x_2))
            case true =>
              have h := if_t h hb_13
              try simp only [hb_13]
              refine lxE_gv (t := 43) hS rfl rfl rfl rfl (fun w hS => OpV_move rfl) rfl ?_
              refine lxE_gv (t := 43) hS rfl rfl rfl rfl (fun w hS => OpV_move rfl) rfl ?_
              obtain ⟨x_14, hx_14, h⟩ := obind_some h
              refine lxE_gv (t := 43) hS rfl rfl rfl rfl (fun w hS => G_ix_room Try.underlying22 ti5 rfl rfl (ha0.now hS.fr) hg_1.2 hx_14) rfl ?_
              refine lxE_gv (t := 43) hS rfl rfl rfl rfl (fun w hS => G_load Try.underlying5 rfl rfl (ha0.now hS.fr) (getO_take hx_14) rfl) rfl ?_
              refine lxE_gv (t := 43) hS rfl rfl rfl rfl (fun w hS => OpV_bin rfl rfl (b_neq8 _ x_14 165)) rfl ?_
              refine lxE_gv (t := 38) hS rfl rfl rfl rfl (fun w hS => OpV_pickT rfl rfl) rfl ?_
              refine lxE_v hS rfl rfl (fun w hS => OpV_pickF rfl rfl) rfl ?_
              refine lxE_nil hS ?_
              refine QE_then_n ?_
              exact wpC_le _ (by exact ⟨rfl, rfl, rfl, rfl, trivial⟩) (hK_7 (x_14 != 165) _ _ ⟨rfl, hS⟩ h)
            case false =>
              have h := if_f h hb_13
              try simp only [hb_13]
              refine lxE_gskip (b := false) (t := 43) hS rfl rfl rfl rfl rfl rfl ?_
              refine lxE_gskip (b := false) (t := 43) hS rfl rfl rfl rfl rfl rfl ?_
              refine lxE_gskip (b := false) (t := 43) hS rfl rfl rfl rfl rfl rfl ?_
              refine lxE_gskip (b := false) (t := 43) hS rfl rfl rfl rfl rfl rfl ?_
              refine lxE_gskip (b := false) (t := 43) hS rfl rfl rfl rfl rfl rfl ?_
              refine lxE_gv (t := 38) hS rfl rfl rfl rfl (fun w hS => OpV_pickF rfl rfl) rfl ?_
              refine lxE_v hS rfl rfl (fun w hS => OpV_pickF rfl rfl) rfl ?_
              refine lxE_nil hS ?_
              refine QE_then_n ?_
              exact wpC_le _ (by exact ⟨rfl, rfl, rfl, rfl, trivial⟩) (hK_7 false _ _ ⟨rfl, hS⟩ h)
        case false =>
          have h := if_f h hb_9
          try simp only [hb_9]
          refine lxE_gskip (b := false) (t := 27) hS rfl rfl rfl rfl rfl rfl ?_
          refine lxE_gskip (b := false) (t := 27) hS rfl rfl rfl rfl rfl rfl ?_
          refine lxE_gskip (b := false) (t := 27) hS rfl rfl rfl rfl rfl rfl ?_
          refine lxE_gskip (b := false) (t := 27) hS rfl rfl rfl rfl rfl rfl ?_
          refine lxE_gskip (b := false) (t := 27) hS rfl rfl rfl rfl rfl rfl ?_
          refine lxE_gskip (b := false) (t := 27) hS rfl rfl rfl rfl rfl rfl ?_
          refine lxE_gskip (b := false) (t := 27) hS rfl rfl rfl rfl rfl rfl ?_
          refine lxE_gskip (b := false) (t := 27) hS rfl rfl rfl rfl rfl rfl ?_
          refine lxE_gskip (b := false) (t := 27) hS rfl rfl rfl rfl rfl rfl ?_
          refine lxE_v hS rfl rfl (fun w hS => OpV_pickF rfl rfl) rfl ?_
          refine lxE_v hS rfl rfl (fun w hS => OpV_move rfl) rfl ?_
          refine lxE_gv (t := 38) hS rfl rfl rfl rfl (fun w hS => OpV_move rfl) rfl ?_
          refine lxE_gv (t := 38) hS rfl rfl rfl rfl (fun w hS => OpV_move rfl) rfl ?_
          refine lxE_gv (t := 38) hS rfl rfl rfl rfl (fun w hS => OpV_len Try.underlying22 rfl (ha1.now hS.fr)) rfl ?_
          refine lxE_gv (t := 38) hS rfl rfl rfl rfl (fun w hS => OpV_bin rfl rfl (b_igeq _ x_2 (a1.length : Int))) rfl ?_
          refine lxE_gv (t := 38) hS rfl rfl rfl rfl (fun w hS => OpV_move rfl) rfl ?_
          cases hb_15 : (decide ((a1.length : Int) ≤ x_2))
          case true =>
            have h := if_t h hb_15
            try simp only [hb_15]
            refine lxE_gv (t := 43) hS rfl rfl rfl rfl (fun w hS => OpV_move rfl) rfl ?_
            refine lxE_gv (t := 43) hS rfl rfl rfl rfl (fun w hS => OpV_move rfl) rfl ?_
            obtain ⟨x_16, hx_16, h⟩ := obind_some h
            refine lxE_gv (t := 43) hS rfl rfl rfl rfl (fun w hS => G_ix_room Try.underlying22 ti5 rfl rfl (ha0.now hS.fr) hg_1.2 hx_16) rfl ?_
            refine lxE_gv (t := 43) hS rfl rfl rfl rfl (fun w hS => G_load Try.underlying5 rfl rfl (ha0.now hS.fr) (getO_take hx_16) rfl) rfl ?_
            refine lxE_gv (t := 43) hS rfl rfl rfl rfl (fun w hS => OpV_bin rfl rfl (b_neq8 _ x_16 165)) rfl ?_
            refine lxE_gv (t := 38) hS rfl rfl rfl rfl (fun w hS => OpV_pickT rfl rfl) rfl ?_
            refine lxE_v hS rfl rfl (fun w hS => OpV_pickF rfl rfl) rfl ?_
            refine lxE_nil hS ?_
            refine QE_then_n ?_
            exact wpC_le _ (by exact ⟨rfl, rfl, rfl, rfl, trivial⟩) (hK_7 (x_16 != 165) _ _ ⟨rfl, hS⟩ h)
          case false =>
            have h := if_f h hb_15
            try simp only [hb_15]
            refine lxE_gskip (b := false) (t := 43) hS rfl rfl rfl rfl rfl rfl ?_
            refine lxE_gskip (b := false) (t := 43) hS rfl rfl rfl rfl rfl rfl ?_
            refine lxE_gskip (b := false) (t := 43) hS rfl rfl rfl rfl rfl rfl ?_
            refine lxE_gskip (b := false) (t := 43) hS rfl rfl rfl rfl rfl rfl ?_
            refine lxE_gskip (b := false) (t := 43) hS rfl rfl rfl rfl rfl rfl ?_
            refine lxE_gv (t := 38) hS rfl rfl rfl rfl (fun w hS => OpV_pickF rfl rfl) rfl ?_
            refine lxE_v hS rfl rfl (fun w hS => OpV_pickF rfl rfl) rfl ?_
            refine lxE_nil hS ?_
            refine QE_then_n ?_
            exact wpC_le _ (by exact ⟨rfl, rfl, rfl, rfl, trivial⟩) (hK_7 false _ _ ⟨rfl, hS⟩ h)
    · have h := if_f h hb_17
      refine wpC_exit ?_
      refine QE_then_x ?_
      refine QE_then_x ?_
      have h := oinr_some h hk_3
      refine QE_blk_x ?_
      refine QE_then_n ?_
      refine wpC_seq ?_
      refine wpC_region ?_
      refine wpR_v (OpV_assign rfl) rfl ?_
      refine wpR_nil ?_
      refine QE_then_n ?_
      refine wpC_ret ?_
      cases h
      exact QE_ret1 rfl rfl ⟨rfl, hS⟩

theorem c_law18_JwsCuts (w0 : World) (a0 : List UInt8) (a1 : List UInt8) (a2 : List UInt8) (a3 : List UInt8) (va1 : Value) (va2 : Value) (va3 : Value) (ha1 : RP [] w0 e8 va1 a1) (ha2 : RP [] w0 e8 va2 a2) (ha3 : RP [] w0 e8 va3 a3) (r : Bool)
    (h : F.law18_JwsCuts a0 a1 a2 a3 = some r) : Calls Try.prog 3 #[vS a0, va1, va2, va3] w0 (Ret fun v w => v = vB r ∧ St [] w0 w []) := by
  refine calls_at 220 Try.func3 rfl rfl rfl ?_
  have hS := St.start w0
  refine wpC_le [(0, vS a0), (1, va1), (2, va2), (3, va3)] ⟨rfl, rfl, rfl, rfl, trivial⟩ ?_
  unfold F.law18_JwsCuts at h
  refine wpC_seq ?_
  refine wpC_region ?_
  refine wpR_v (OpV_assign rfl) rfl ?_
  refine wpR_nil ?_
  refine QE_then_n ?_
  refine wpC_seq ?_
  refine wpC_region ?_
  refine wpR_v (OpV_move rfl) rfl ?_
  obtain ⟨x_1, hx_1, h⟩ := obind_some h
  refine wpR_call (by kernel_rfl) rfl (c_jws_Split _ a0   _ hx_1) rfl ?_
  rintro _ w ⟨rfl, hS1⟩
  have hS := hS.call hS1
  simp only [List.nil_append] at hS
  refine wpR_v (OpV_move rfl) rfl ?_
  refine wpR_v (OpV_extract rfl rfl) rfl ?_
  refine wpR_v (OpV_extract rfl rfl) rfl ?_
  refine wpR_v (OpV_extract rfl rfl) rfl ?_
  refine wpR_v (OpV_extract rfl rfl) rfl ?_
  refine wpR_v (OpV_assign rfl) rfl ?_
  refine wpR_v (OpV_assign rfl) rfl ?_
  refine wpR_v (OpV_assign rfl) rfl ?_
  refine wpR_v (OpV_assign rfl) rfl ?_
  refine wpR_nil ?_
  refine QE_then_n ?_
  refine wpC_seq ?_
  refine wpC_region ?_
  refine wpR_v (OpV_move rfl) rfl ?_
  obtain ⟨x_2, hx_2, h⟩ := obind_some h
  refine wpR_call (by kernel_rfl) rfl (c_ref18_Split _ a0   _ hx_2) rfl ?_
  rintro _ w ⟨rfl, hS1⟩
  have hS := hS.call hS1
  simp only [List.nil_append] at hS
  refine wpR_v (OpV_move rfl) rfl ?_
  refine wpR_v (OpV_extract rfl rfl) rfl ?_
  refine wpR_v (OpV_extract rfl rfl) rfl ?_
  refine wpR_v (OpV_extract rfl rfl) rfl ?_
  refine wpR_v (OpV_extract rfl rfl) rfl ?_
  refine wpR_v (OpV_assign rfl) rfl ?_
  refine wpR_v (OpV_assign rfl) rfl ?_
  refine wpR_v (OpV_assign rfl) rfl ?_
  refine wpR_v (OpV_assign rfl) rfl ?_
  refine wpR_nil ?_
  refine QE_then_n ?_
  refine wpC_seq ?_
  refine seq_join (r := r) (fun (g : Bool) L w => L = [(0, vS a0), (1, va1), (2, va2), (3, va3), (67, vB g)] ∧ St [] w0 w []) (F.law18_JwsCuts_K1 a0 a1 a2 a3) ?_ ?_
  · rintro x_3 L w hJ h
    try dsimp only at hJ
    obtain ⟨rfl, hS⟩ := hJ
    unfold F.law18_JwsCuts_K1 at h
    refine wpC_cond rfl (fun hb_89 => ?_) (fun hb_89 => ?_)
    · have h := if_t h hb_89
      refine wpC_seq ?_
      refine wpC_region ?_
      refine wpR_v (OpV_assign rfl) rfl ?_
      refine wpR_nil ?_
      refine QE_then_n ?_
      refine wpC_ret ?_
      refine QE_then_r ?_
      cases h
      exact QE_ret1 rfl rfl ⟨rfl, hS⟩
    · have h := if_f h hb_89
      refine wpC_skip ?_
      refine QE_then_n ?_
      refine wpC_seq ?_
      refine wpC_region ?_
      refine wpR_v (OpV_move rfl) rfl ?_
      obtain ⟨x_5, hx_5, h⟩ := obind_some h
      refine wpR_call (by kernel_rfl) rfl (c_jws_Decode _ a0   _ hx_5) rfl ?_
      rintro _ w ⟨v_6, v_8, v_10, rfl, hS1⟩
      have hS := hS.call hS1
      simp only [List.cons_append, List.nil_append] at hS
      refine wpR_v (OpV_move rfl) rfl ?_
      refine wpR_v (OpV_extract rfl rfl) rfl ?_
      refine wpR_v (OpV_extract rfl rfl) rfl ?_
      refine wpR_v (OpV_extract rfl rfl) rfl ?_
      refine wpR_v (OpV_extract rfl rfl) rfl ?_
      refine wpR_v (OpV_assign rfl) rfl ?_
      refine wpR_v (OpV_assign rfl) rfl ?_
      refine wpR_v (OpV_assign rfl) rfl ?_
      refine wpR_v (OpV_assign rfl) rfl ?_
      refine wpR_nil ?_
      refine QE_then_n ?_
      refine wpC_seq ?_
      refine wpC_region ?_
      refine wpR_v (OpV_move rfl) rfl ?_
      obtain ⟨x_12, hx_12, h⟩ := obind_some h
      refine wpR_call (by kernel_rfl) rfl (c_ref18_Decode _ a0   _ hx_12) rfl ?_
      rintro _ w ⟨v_13, v_15, v_17, rfl, hS1⟩
      have hS := hS.call hS1
      simp only [List.cons_append, List.nil_append] at hS
      refine wpR_v (OpV_move rfl) rfl ?_
      refine wpR_v (OpV_extract rfl rfl) rfl ?_
      refine wpR_v (OpV_extract rfl rfl) rfl ?_
      refine wpR_v (OpV_extract rfl rfl) rfl ?_
      refine wpR_v (OpV_extract rfl rfl) rfl ?_
      refine wpR_v (OpV_assign rfl) rfl ?_
      refine wpR_v (OpV_assign rfl) rfl ?_
      refine wpR_v (OpV_assign rfl) rfl ?_
      refine wpR_v (OpV_assign rfl) rfl ?_
      refine wpR_nil ?_
      refine QE_then_n ?_
      refine wpC_seq ?_
      refine seq_join (r := r) (fun (g : Bool) L w => L = [(1, va1), (2, va2), (3, va3), (102, vB g)] ∧ St [] w0 w []) (F.law18_JwsCuts_K2 a1 a2 a3) ?_ ?_
      · rintro x_19 L w hJ h
        try dsimp only at hJ
        obtain ⟨rfl, hS⟩ := hJ
        unfold F.law18_JwsCuts_K2 at h
        refine wpC_cond rfl (fun hb_82 => ?_) (fun hb_82 => ?_)
        · have h := if_t h hb_82
          refine wpC_seq ?_
          refine wpC_region ?_
          refine wpR_v (OpV_assign rfl) rfl ?_
          refine wpR_nil ?_
          refine QE_then_n ?_
          refine wpC_ret ?_
          refine QE_then_r ?_
          cases h
          exact QE_ret1 rfl rfl ⟨rfl, hS⟩
        · have h := if_f h hb_82
          refine wpC_skip ?_
          refine QE_then_n ?_
          refine wpC_seq ?_
          refine wpC_region ?_
          refine wpR_v (OpV_move rfl) rfl ?_
          obtain ⟨x_21, hx_21, h⟩ := obind_some h
          refine wpR_call (by kernel_rfl) rfl (c_law18_lent _ a1 va1 (ha1.now hS.fr).rp _ hx_21) rfl ?_
          rintro _ w ⟨v_22, rfl, hk_24, hS1⟩
          have hS := hS.call hS1
          simp only [List.cons_append, List.nil_append] at hS
          refine wpR_v (OpV_assign rfl) rfl ?_
          refine wpR_nil ?_
          refine QE_then_n ?_
          refine wpC_seq ?_
          refine wpC_region ?_
          refine wpR_v (OpV_move rfl) rfl ?_
          obtain ⟨x_25, hx_25, h⟩ := obind_some h
          refine wpR_call (by kernel_rfl) rfl (c_law18_lent _ a2 va2 (ha2.now hS.fr).rp _ hx_25) rfl ?_
          rintro _ w ⟨v_26, rfl, hk_28, hS1⟩
          have hS := hS.call hS1
          simp only [List.cons_append, List.nil_append] at hS
          refine wpR_v (OpV_assign rfl) rfl ?_
          refine wpR_nil ?_
          refine QE_then_n ?_
          refine wpC_seq ?_
          refine wpC_region ?_
          refine wpR_v (OpV_move rfl) rfl ?_
          obtain ⟨x_29, hx_29, h⟩ := obind_some h
          refine wpR_call (by kernel_rfl) rfl (c_law18_lent _ a3 va3 (ha3.now hS.fr).rp _ hx_29) rfl ?_
          rintro _ w ⟨v_30, rfl, hk_32, hS1⟩
          have hS := hS.call hS1
          simp only [List.cons_append, List.nil_append] at hS
          refine wpR_v (OpV_assign rfl) rfl ?_
          refine wpR_nil ?_
          refine QE_then_n ?_
          refine wpC_seq ?_
          refine wpC_region ?_
          refine wpR_v (OpV_move rfl) rfl ?_
          refine wpR_v (OpV_move rfl) rfl ?_
          refine wpR_v (OpV_move rfl) rfl ?_
          obtain ⟨x_33, hx_33, h⟩ := obind_some h
          refine wpR_call (by kernel_rfl) rfl (c_jws_Compact _ (x_21.1.take x_21.2) (x_25.1.take x_25.2) (x_29.1.take x_29.2) (slV v_22 e8.sz 0 x_21.2) (slV v_26 e8.sz 0 x_25.2) (slV v_30 e8.sz 0 x_29.2) ((hS.ro 2 rfl).tk hk_24).rp ((hS.ro 1 rfl).tk hk_28).rp ((hS.ro 0 rfl).tk hk_32).rp _ hx_33) rfl ?_
          rintro _ w ⟨rfl, hS1⟩
          have hS := hS.call hS1
          simp only [List.nil_append] at hS
          refine wpR_v (OpV_move rfl) rfl ?_
          refine wpR_v (OpV_extract rfl rfl) rfl ?_
          refine wpR_v (OpV_extract rfl rfl) rfl ?_
          refine wpR_v (OpV_assign rfl) rfl ?_
          refine wpR_v (OpV_assign rfl) rfl ?_
          refine wpR_nil ?_
          refine QE_then_n ?_
          refine wpC_seq ?_
          refine wpC_region ?_
          refine wpR_v (OpV_move rfl) rfl ?_
          refine wpR_v (OpV_move rfl) rfl ?_
          refine wpR_v (OpV_move rfl) rfl ?_
          obtain ⟨x_34, hx_34, h⟩ := obind_some h
          refine wpR_call (by kernel_rfl) rfl (c_ref18_Compact _ a1 a2 a3 va1 va2 va3 (ha1.now hS.fr).rp (ha2.now hS.fr).rp (ha3.now hS.fr).rp _ hx_34) rfl ?_
          rintro _ w ⟨rfl, hS1⟩
          have hS := hS.call hS1
          simp only [List.nil_append] at hS
          refine wpR_v (OpV_move rfl) rfl ?_
          refine wpR_v (OpV_extract rfl rfl) rfl ?_
          refine wpR_v (OpV_extract rfl rfl) rfl ?_
          refine wpR_v (OpV_assign rfl) rfl ?_
          refine wpR_v (OpV_assign rfl) rfl ?_
          refine wpR_nil ?_
          refine QE_then_n ?_
          refine wpC_seq ?_
          refine seq_join (r := r) (fun (g : Bool) L w => L = [(2, va2), (25, slV v_22 e8.sz 0 x_21.2), (26, slV v_26 e8.sz 0 x_25.2), (27, slV v_30 e8.sz 0 x_29.2), (148, vB g)] ∧ St [] w0 w [own e8 v_22 x_21.1, own e8 v_26 x_25.1, own e8 v_30 x_29.1]) (F.law18_JwsCuts_K3 x_21 x_29 a2 x_25) ?_ ?_
          · rintro x_35 L w hJ h
            try dsimp only at hJ
            obtain ⟨rfl, hS⟩ := hJ
            unfold F.law18_JwsCuts_K3 at h
            refine wpC_cond rfl (fun hb_74 => ?_) (fun hb_74 => ?_)
            · have h := if_t h hb_74
              refine wpC_seq ?_
              refine wpC_region ?_
              refine wpR_v (OpV_assign rfl) rfl ?_
              refine wpR_nil ?_
              refine QE_then_n ?_
              refine wpC_ret ?_
              refine QE_then_r ?_
              cases h
              exact QE_ret1 rfl rfl ⟨rfl, hS.pick [] (by decide) rfl⟩
            · have h := if_f h hb_74
              refine wpC_skip ?_
              refine QE_then_n ?_
              refine wpC_seq ?_
              refine wpC_seq ?_
              refine wpC_region ?_
              refine wpR_v (OpV_assign rfl) rfl ?_
              refine wpR_nil ?_
              refine QE_then_n ?_
              refine wpC_block ?_
              refine wpC_le [(2, va2), (25, slV v_22 e8.sz 0 x_21.2), (26, slV v_26 e8.sz 0 x_25.2), (27, slV v_30 e8.sz 0 x_29.2), (32, vI 0)] ⟨rfl, rfl, rfl, rfl, rfl, trivial⟩ ?_
              refine loop_ind (F.law18_JwsCuts_L1 x_21 x_29 a2 x_25) (fun (s : Int × List UInt8) L w => L = [(2, va2), (25, slV v_22 e8.sz 0 x_21.2), (26, slV v_26 e8.sz 0 x_25.2), (27, slV v_30 e8.sz 0 x_29.2), (32, vI s.1)] ∧ x_21.2 ≤ s.2.length ∧ St [] w0 w [own e8 v_22 s.2, own e8 v_26 x_25.1, own e8 v_30 x_29.1]) ?_ (0, x_21.1) ⟨rfl, hk_24, hS⟩ h
              rintro k_73 ⟨x_37, x_38⟩ L w q_42 hI ih_41 h hk_40
              try dsimp only at hI
              obtain ⟨rfl, hK_39, hS⟩ := hI
              unfold F.law18_JwsCuts_L1 at h
              refine wpC_seq ?_
              refine wpC_seq ?_
              refine wpC_region ?_
              refine wpR_v (OpV_move rfl) rfl ?_
              refine wpR_v (OpV_move rfl) rfl ?_
              refine wpR_v (OpV_len Try.underlying22 rfl ((hS.ro 0 rfl).tk hK_39)) rfl ?_
              refine wpR_v (OpV_bin rfl rfl (b_ilss _ x_37 ((x_38.take x_21.2).length : Int))) rfl ?_
              refine wpR_nil ?_
              refine QE_then_n ?_
              refine wpC_cond rfl (fun hb_72 => ?_) (fun hb_72 => ?_)
              · have h := if_t h hb_72
                refine wpC_skip ?_
                refine QE_then_n ?_
                refine wpC_seq ?_
                refine wpC_block ?_
                refine wpC_region ?_
                refine wpR_v (OpV_move rfl) rfl ?_
                refine wpR_v (OpV_move rfl) rfl ?_
                refine wpR_v (OpV_move rfl) rfl ?_
                refine wpR_v (OpV_move rfl) rfl ?_
                obtain ⟨x_43, hx_43, h⟩ := obind_some h
                refine wpR_v (G_ix_room Try.underlying22 ti5 rfl rfl (hS.ro 0 rfl) hK_39 hx_43) rfl ?_
                refine wpR_v (G_load Try.underlying5 rfl rfl (hS.ro 0 rfl) (getO_take hx_43) rfl) rfl ?_
                refine wpR_v (OpV_bin rfl rfl (b_add8 _ x_43 1)) rfl ?_
                obtain ⟨x_44, hx_44, h⟩ := obind_some h
                refine wpR_v (G_ix_room Try.underlying22 ti5 rfl rfl (hS.ro 0 rfl) hK_39 hx_44) rfl ?_
                refine wpR_y (G_storeE (t := (x_43 + 1)) ti5 rfl rfl hS (i := 0) rfl (getO_take hx_44) rfl) ?_
                intro w hS
                obtain ⟨x_45, hx_45, h⟩ := olet_some h
                rw [hx_45] at hS
                refine wpR_nil ?_
                refine QE_blk_n ?_
                refine QE_then_n ?_
                refine wpC_region ?_
                refine wpR_v (OpV_move rfl) rfl ?_
                refine wpR_v (OpV_bin rfl rfl (b_iadd _ x_37 1)) rfl ?_
                refine wpR_v (OpV_assign rfl) rfl ?_
                refine wpR_nil ?_
                exact QE_rnd (wpN_le _ (by exact ⟨rfl, rfl, rfl, rfl, rfl, trivial⟩) (ih_41 (wI (x_37 + 1), x_45) _ _ ⟨rfl, (by rw [← hx_45, List.length_set]; exact hK_39), hS⟩ (oinl_some h hk_40)))
              · have h := if_f h hb_72
                refine wpC_exit ?_
                refine QE_then_x ?_
                refine QE_then_x ?_
                have h := oinr_some h hk_40
                refine QE_blk_x ?_
                refine QE_then_n ?_
                refine wpC_seq ?_
                refine wpC_seq ?_
                refine wpC_region ?_
                refine wpR_v (OpV_assign rfl) rfl ?_
                refine wpR_nil ?_
                refine QE_then_n ?_
                refine wpC_block ?_
                refine wpC_le [(2, va2), (25, slV v_22 e8.sz 0 x_21.2), (26, slV v_26 e8.sz 0 x_25.2), (27, slV v_30 e8.sz 0 x_29.2), (33, vI 0)] ⟨rfl, rfl, rfl, rfl, rfl, trivial⟩ ?_
                refine loop_ind (F.law18_JwsCuts_L2 a2 x_21 x_25 x_29 x_38) (fun (s : Int × List UInt8) L w => L = [(2, va2), (25, slV v_22 e8.sz 0 x_21.2), (26, slV v_26 e8.sz 0 x_25.2), (27, slV v_30 e8.sz 0 x_29.2), (33, vI s.1)] ∧ x_29.2 ≤ s.2.length ∧ St [] w0 w [own e8 v_22 x_38, own e8 v_26 x_25.1, own e8 v_30 s.2]) ?_ (0, x_29.1) ⟨rfl, hk_32, hS⟩ h
                rintro k_71 ⟨x_46, x_47⟩ L w q_51 hI ih_50 h hk_49
                try dsimp only at hI
                obtain ⟨rfl, hK_48, hS⟩ := hI
                unfold F.law18_JwsCuts_L2 at h
                refine wpC_seq ?_
                refine wpC_seq ?_
                refine wpC_region ?_
                refine wpR_v (OpV_move rfl) rfl ?_
                refine wpR_v (OpV_move rfl) rfl ?_
                refine wpR_v (OpV_len Try.underlying22 rfl ((hS.ro 2 rfl).tk hK_48)) rfl ?_
                refine wpR_v (OpV_bin rfl rfl (b_ilss _ x_46 ((x_47.take x_29.2).length : Int))) rfl ?_
                refine wpR_nil ?_
                refine QE_then_n ?_
                refine wpC_cond rfl (fun hb_70 => ?_) (fun hb_70 => ?_)
                · have h := if_t h hb_70
                  refine wpC_skip ?_
                  refine QE_then_n ?_
                  refine wpC_seq ?_
                  refine wpC_block ?_
                  refine wpC_region ?_
                  refine wpR_v (OpV_move rfl) rfl ?_
                  refine wpR_v (OpV_move rfl) rfl ?_
                  refine wpR_v (OpV_move rfl) rfl ?_
                  refine wpR_v (OpV_move rfl) rfl ?_
                  obtain ⟨x_52, hx_52, h⟩ := obind_some h
                  refine wpR_v (G_ix_room Try.underlying22 ti5 rfl rfl (hS.ro 2 rfl) hK_48 hx_52) rfl ?_
                  refine wpR_v (G_load Try.underlying5 rfl rfl (hS.ro 2 rfl) (getO_take hx_52) rfl) rfl ?_
                  refine wpR_v (OpV_bin rfl rfl (b_sub8 _ 255 x_52)) rfl ?_
                  obtain ⟨x_53, hx_53, h⟩ := obind_some h
                  refine wpR_v (G_ix_room Try.underlying22 ti5 rfl rfl (hS.ro 2 rfl) hK_48 hx_53) rfl ?_
                  refine wpR_y (G_storeE (t := (255 - x_52)) ti5 rfl rfl hS (i := 2) rfl (getO_take hx_53) rfl) ?_
                  intro w hS
                  obtain ⟨x_54, hx_54, h⟩ := olet_some h
                  rw [hx_54] at hS
                  refine wpR_nil ?_
                  refine QE_blk_n ?_
                  refine QE_then_n ?_
                  refine wpC_region ?_
                  refine wpR_v (OpV_move rfl) rfl ?_
                  refine wpR_v (OpV_bin rfl rfl (b_iadd _ x_46 1)) rfl ?_
                  refine wpR_v (OpV_assign rfl) rfl ?_
                  refine wpR_nil ?_
                  exact QE_rnd (wpN_le _ (by exact ⟨rfl, rfl, rfl, rfl, rfl, trivial⟩) (ih_50 (wI (x_46 + 1), x_54) _ _ ⟨rfl, (by rw [← hx_54, List.length_set]; exact hK_48), hS⟩ (oinl_some h hk_49)))
                · have h := if_f h hb_70
                  refine wpC_exit ?_
                  refine QE_then_x ?_
                  refine QE_then_x ?_
                  have h := oinr_some h hk_49
                  refine QE_blk_x ?_
                  refine QE_then_n ?_
                  refine wpC_seq ?_
                  refine wpC_region ?_
                  refine wpR_v (OpV_assign rfl) rfl ?_
                  refine wpR_v (OpV_assign rfl) rfl ?_
                  refine wpR_nil ?_
                  refine QE_then_n ?_
                  refine wpC_seq ?_
                  refine wpC_region ?_
                  refine wpR_v (OpV_move rfl) rfl ?_
                  refine wpR_v (OpV_move rfl) rfl ?_
                  obtain ⟨x_55, hx_55, h⟩ := obind_some h
                  refine wpR_x (G_append0 Try.underlying22 ti5 rfl rfl rfl hS ((hS.ro 0 rfl).tk hK_39) hx_55) rfl ?_
                  rintro v_56 w hS
                  refine wpR_v (OpV_assign rfl) rfl ?_
                  refine wpR_nil ?_
                  refine QE_then_n ?_
                  refine wpC_seq ?_
                  refine wpC_region ?_
                  refine wpR_v (OpV_move rfl) rfl ?_
                  refine wpR_v (OpV_move rfl) rfl ?_
                  obtain ⟨x_58, hx_58, h⟩ := obind_some h
                  refine wpR_x (G_append0 Try.underlying22 ti5 rfl rfl rfl hS ((hS.ro 3 rfl).tk hK_48) hx_58) rfl ?_
                  rintro v_59 w hS
                  refine wpR_v (OpV_assign rfl) rfl ?_
                  refine wpR_nil ?_
                  refine QE_then_n ?_
                  refine wpC_seq ?_
                  refine wpC_region ?_
                  refine wpR_v (OpV_move rfl) rfl ?_
                  refine wpR_v (OpV_move rfl) rfl ?_
                  refine wpR_v (OpV_move rfl) rfl ?_
                  obtain ⟨x_61, hx_61, h⟩ := obind_some h
                  refine wpR_call (by kernel_rfl) rfl (c_jws_Compact _ (x_38.take x_21.2) (x_25.1.take x_25.2) (x_47.take x_29.2) (slV v_22 e8.sz 0 x_21.2) (slV v_26 e8.sz 0 x_25.2) (slV v_30 e8.sz 0 x_29.2) ((hS.ro 2 rfl).tk hK_39).rp ((hS.ro 3 rfl).tk hk_28).rp ((hS.ro 4 rfl).tk hK_48).rp _ hx_61) rfl ?_
                  rintro _ w ⟨rfl, hS1⟩
                  have hS := hS.call hS1
                  simp only [List.nil_append] at hS
                  refine wpR_v (OpV_move rfl) rfl ?_
                  refine wpR_v (OpV_extract rfl rfl) rfl ?_
                  refine wpR_v (OpV_extract rfl rfl) rfl ?_
                  refine wpR_v (OpV_assign rfl) rfl ?_
                  refine wpR_v (OpV_assign rfl) rfl ?_
                  refine wpR_nil ?_
                  refine QE_then_n ?_
                  refine wpC_seq ?_
                  refine wpC_region ?_
                  refine wpR_v (OpV_move rfl) rfl ?_
                  refine wpR_v (OpV_move rfl) rfl ?_
                  refine wpR_v (OpV_move rfl) rfl ?_
                  obtain ⟨x_62, hx_62, h⟩ := obind_some h
                  refine wpR_call (by kernel_rfl) rfl (c_ref18_Compact _ x_55 a2 x_58 v_56 va2 v_59 (hS.ro 1 rfl).rp (ha2.now hS.fr).rp (hS.ro 0 rfl).rp _ hx_62) rfl ?_
                  rintro _ w ⟨rfl, hS1⟩
                  have hS := hS.call hS1
                  simp only [List.nil_append] at hS
                  refine wpR_v (OpV_move rfl) rfl ?_
                  refine wpR_v (OpV_extract rfl rfl) rfl ?_
                  refine wpR_v (OpV_extract rfl rfl) rfl ?_
                  refine wpR_v (OpV_assign rfl) rfl ?_
                  refine wpR_v (OpV_assign rfl) rfl ?_
                  refine wpR_nil ?_
                  refine QE_then_n ?_
                  refine wpC_seq ?_
                  refine wpC_region ?_
                  refine wpR_v (OpV_move rfl) rfl ?_
                  refine wpR_v (OpV_move rfl) rfl ?_
                  refine wpR_v (OpV_bin rfl rfl (b_seql _ x_61.1 x_62.1)) rfl ?_
                  refine wpR_v (OpV_move rfl) rfl ?_
                  cases hb_63 : (x_61.1 == x_62.1)
                  case true =>
                    have h := if_t h hb_63
                    try simp only [hb_63]
                    refine wpR_gv (t := 200) rfl rfl (OpV_move rfl) rfl ?_
                    refine wpR_gv (t := 200) rfl rfl (OpV_move rfl) rfl ?_
                    refine wpR_gv (t := 200) rfl rfl (OpV_bin rfl rfl (b_ieql _ x_61.2 x_62.2)) rfl ?_
                    refine wpR_v (OpV_pickT rfl rfl) rfl ?_
                    refine wpR_v (OpV_move rfl) rfl ?_
                    cases hb_64 : (x_61.2 == x_62.2)
                    case true =>
                      have h := if_t h hb_64
                      try simp only [hb_64]
                      refine wpR_gv (t := 205) rfl rfl (OpV_move rfl) rfl ?_
                      refine wpR_gv (t := 205) rfl rfl (OpV_move rfl) rfl ?_
                      obtain ⟨x_65, hx_65, h⟩ := obind_some h
                      refine wpR_gcall (t := 205) rfl rfl (by kernel_rfl) rfl (c_law18_still _ x_38 x_21.2 x_55 v_22 v_56 (hS.ro 2 rfl).rp hK_39 (hS.ro 1 rfl).rp _ hx_65) rfl ?_
                      rintro _ w ⟨rfl, hS1⟩
                      have hS := hS.call hS1
                      simp only [List.nil_append] at hS
                      refine wpR_v (OpV_pickT rfl rfl) rfl ?_
                      refine wpR_v (OpV_move rfl) rfl ?_
                      cases hb_66 : x_65
                      case true =>
                        have h := if_t h hb_66
                        try simp only [hb_66]
                        refine wpR_gv (t := 210) rfl rfl (OpV_move rfl) rfl ?_
                        refine wpR_gv (t := 210) rfl rfl (OpV_move rfl) rfl ?_
                        obtain ⟨x_67, hx_67, h⟩ := obind_some h
                        refine wpR_gcall (t := 210) rfl rfl (by kernel_rfl) rfl (c_law18_still _ x_25.1 x_25.2 a2 v_26 va2 (hS.ro 3 rfl).rp hk_28 (ha2.now hS.fr).rp _ hx_67) rfl ?_
                        rintro _ w ⟨rfl, hS1⟩
                        have hS := hS.call hS1
                        simp only [List.nil_append] at hS
                        refine wpR_v (OpV_pickT rfl rfl) rfl ?_
                        refine wpR_v (OpV_move rfl) rfl ?_
                        cases hb_68 : x_67
                        case true =>
                          have h := if_t h hb_68
                          try simp only [hb_68]
                          refine wpR_gv (t := 215) rfl rfl (OpV_move rfl) rfl ?_
                          refine wpR_gv (t := 215) rfl rfl (OpV_move rfl) rfl ?_
                          obtain ⟨x_69, hx_69, h⟩ := obind_some h
                          refine wpR_gcall (t := 215) rfl rfl (by kernel_rfl) rfl (c_law18_still _ x_47 x_29.2 x_58 v_30 v_59 (hS.ro 4 rfl).rp hK_48 (hS.ro 0 rfl).rp _ hx_69) rfl ?_
                          rintro _ w ⟨rfl, hS1⟩
                          have hS := hS.call hS1
                          simp only [List.nil_append] at hS
                          refine wpR_v (OpV_pickT rfl rfl) rfl ?_
                          refine wpR_v (OpV_assign rfl) rfl ?_
                          refine wpR_nil ?_
                          refine QE_then_n ?_
                          refine wpC_ret ?_
                          cases h
                          exact QE_ret1 rfl rfl ⟨rfl, hS.pick [] (by decide) rfl⟩
                        case false =>
                          have h := if_f h hb_68
                          try simp only [hb_68]
                          refine wpR_gskip (b := false) (t := 215) rfl rfl rfl rfl ?_
                          refine wpR_gskip (b := false) (t := 215) rfl rfl rfl rfl ?_
                          refine wpR_gskip (b := false) (t := 215) rfl rfl rfl rfl ?_
                          refine wpR_v (OpV_pickF rfl rfl) rfl ?_
                          refine wpR_v (OpV_assign rfl) rfl ?_
                          refine wpR_nil ?_
                          refine QE_then_n ?_
                          refine wpC_ret ?_
                          cases h
                          exact QE_ret1 rfl rfl ⟨rfl, hS.pick [] (by decide) rfl⟩
                      case false =>
                        have h := if_f h hb_66
                        try simp only [hb_66]
                        refine wpR_gskip (b := false) (t := 210) rfl rfl rfl rfl ?_
                        refine wpR_gskip (b := false) (t := 210) rfl rfl rfl rfl ?_
                        refine wpR_gskip (b := false) (t := 210) rfl rfl rfl rfl ?_
                        refine wpR_v (OpV_pickF rfl rfl) rfl ?_
                        refine wpR_v (OpV_move rfl) rfl ?_
                        refine wpR_gskip (b := false) (t := 215) rfl rfl rfl rfl ?_
                        refine wpR_gskip (b := false) (t := 215) rfl rfl rfl rfl ?_
                        refine wpR_gskip (b := false) (t := 215) rfl rfl rfl rfl ?_
                        refine wpR_v (OpV_pickF rfl rfl) rfl ?_
                        refine wpR_v (OpV_assign rfl) rfl ?_
                        refine wpR_nil ?_
                        refine QE_then_n ?_
                        refine wpC_ret ?_
                        cases h
                        exact QE_ret1 rfl rfl ⟨rfl, hS.pick [] (by decide) rfl⟩
                    case false =>
                      have h := if_f h hb_64
                      try simp only [hb_64]
                      refine wpR_gskip (b := false) (t := 205) rfl rfl rfl rfl ?_
                      refine wpR_gskip (b := false) (t := 205) rfl rfl rfl rfl ?_
                      refine wpR_gskip (b := false) (t := 205) rfl rfl rfl rfl ?_
                      refine wpR_v (OpV_pickF rfl rfl) rfl ?_
                      refine wpR_v (OpV_move rfl) rfl ?_
                      refine wpR_gskip (b := false) (t := 210) rfl rfl rfl rfl ?_
                      refine wpR_gskip (b := false) (t := 210) rfl rfl rfl rfl ?_
                      refine wpR_gskip (b := false) (t := 210) rfl rfl rfl rfl ?_
                      refine wpR_v (OpV_pickF rfl rfl) rfl ?_
                      refine wpR_v (OpV_move rfl) rfl ?_
                      refine wpR_gskip (b := false) (t := 215) rfl rfl rfl rfl ?_
                      refine wpR_gskip (b := false) (t := 215) rfl rfl rfl rfl ?_
                      refine wpR_gskip (b := false) (t := 215) rfl rfl rfl rfl ?_
                      refine wpR_v (OpV_pickF rfl rfl) rfl ?_
                      refine wpR_v (OpV_assign rfl) rfl ?_
                      refine wpR_nil ?_
                      refine QE_then_n ?_
                      refine wpC_ret ?_
                      cases h
                      exact QE_ret1 rfl rfl ⟨rfl, hS.pick [] (by decide) rfl⟩
                  case false =>
                    have h := if_f h hb_63
                    try simp only [hb_63]
                    refine wpR_gskip (b := false) (t := 200) rfl rfl rfl rfl ?_
                    refine wpR_gskip (b := false) (t := 200) rfl rfl rfl rfl ?_
                    refine wpR_gskip (b := false) (t := 200) rfl rfl rfl rfl ?_
                    refine wpR_v (OpV_pickF rfl rfl) rfl ?_
                    refine wpR_v (OpV_move rfl) rfl ?_
                    refine wpR_gskip (b := false) (t := 205) rfl rfl rfl rfl ?_
                    refine wpR_gskip (b := false) (t := 205) rfl rfl rfl rfl ?_
                    refine wpR_gskip (b := false) (t := 205) rfl rfl rfl rfl ?_
                    refine wpR_v (OpV_pickF rfl rfl) rfl ?_
                    refine wpR_v (OpV_move rfl) rfl ?_
                    refine wpR_gskip (b := false) (t := 210) rfl rfl rfl rfl ?_
                    refine wpR_gskip (b := false) (t := 210) rfl rfl rfl rfl ?_
                    refine wpR_gskip (b := false) (t := 210) rfl rfl rfl rfl ?_
                    refine wpR_v (OpV_pickF rfl rfl) rfl ?_
                    refine wpR_v (OpV_move rfl) rfl ?_
                    refine wpR_gskip (b := false) (t := 215) rfl rfl rfl rfl ?_
                    refine wpR_gskip (b := false) (t := 215) rfl rfl rfl rfl ?_
                    refine wpR_gskip (b := false) (t := 215) rfl rfl rfl rfl ?_
                    refine wpR_v (OpV_pickF rfl rfl) rfl ?_
                    refine wpR_v (OpV_assign rfl) rfl ?_
                    refine wpR_nil ?_
                    refine QE_then_n ?_
                    refine wpC_ret ?_
                    cases h
                    exact QE_ret1 rfl rfl ⟨rfl, hS.pick [] (by decide) rfl⟩
          · intro hK_36
            refine wpC_region ?_
            refine wpR_v (OpV_move rfl) rfl ?_
            refine wpR_v (OpV_move rfl) rfl ?_
            refine wpR_v (OpV_bin rfl rfl (b_sneq _ x_33.1 x_34.1)) rfl ?_
            refine wpR_v (OpV_move rfl) rfl ?_
            cases hb_75 : (x_33.1 != x_34.1)
            case true =>
              have h := if_t h hb_75
              try simp only [hb_75]
              refine wpR_gskip (b := true) (t := 126) rfl rfl rfl rfl ?_
              refine wpR_gskip (b := true) (t := 126) rfl rfl rfl rfl ?_
              refine wpR_gskip (b := true) (t := 126) rfl rfl rfl rfl ?_
              refine wpR_v (OpV_pickT rfl rfl) rfl ?_
              refine wpR_v (OpV_move rfl) rfl ?_
              refine wpR_gskip (b := true) (t := 131) rfl rfl rfl rfl ?_
              refine wpR_gskip (b := true) (t := 131) rfl rfl rfl rfl ?_
              refine wpR_gskip (b := true) (t := 131) rfl rfl rfl rfl ?_
              refine wpR_gskip (b := true) (t := 131) rfl rfl rfl rfl ?_
              refine wpR_v (OpV_pickT rfl rfl) rfl ?_
              refine wpR_v (OpV_move rfl) rfl ?_
              refine wpR_gskip (b := true) (t := 137) rfl rfl rfl rfl ?_
              refine wpR_gskip (b := true) (t := 137) rfl rfl rfl rfl ?_
              refine wpR_gskip (b := true) (t := 137) rfl rfl rfl rfl ?_
              refine wpR_gskip (b := true) (t := 137) rfl rfl rfl rfl ?_
              refine wpR_v (OpV_pickT rfl rfl) rfl ?_
              refine wpR_v (OpV_move rfl) rfl ?_
              refine wpR_gskip (b := true) (t := 143) rfl rfl rfl rfl ?_
              refine wpR_gskip (b := true) (t := 143) rfl rfl rfl rfl ?_
              refine wpR_gskip (b := true) (t := 143) rfl rfl rfl rfl ?_
              refine wpR_gskip (b := true) (t := 143) rfl rfl rfl rfl ?_
              refine wpR_v (OpV_pickT rfl rfl) rfl ?_
              refine wpR_nil ?_
              refine QE_then_n ?_
              exact wpC_le _ (by exact ⟨rfl, rfl, rfl, rfl, rfl, trivial⟩) (hK_36 true _ _ ⟨rfl, (hS.pick [2, 1, 0] (by decide) rfl)⟩ h)
            case false =>
              have h := if_f h hb_75
              try simp only [hb_75]
              refine wpR_gv (t := 126) rfl rfl (OpV_move rfl) rfl ?_
              refine wpR_gv (t := 126) rfl rfl (OpV_move rfl) rfl ?_
              refine wpR_gv (t := 126) rfl rfl (OpV_bin rfl rfl (b_ineq _ x_33.2 x_34.2)) rfl ?_
              refine wpR_v (OpV_pickF rfl rfl) rfl ?_
              refine wpR_v (OpV_move rfl) rfl ?_
              cases hb_76 : (x_33.2 != x_34.2)
              case true =>
                have h := if_t h hb_76
                try simp only [hb_76]
                refine wpR_gskip (b := true) (t := 131) rfl rfl rfl rfl ?_
                refine wpR_gskip (b := true) (t := 131) rfl rfl rfl rfl ?_
                refine wpR_gskip (b := true) (t := 131) rfl rfl rfl rfl ?_
                refine wpR_gskip (b := true) (t := 131) rfl rfl rfl rfl ?_
                refine wpR_v (OpV_pickT rfl rfl) rfl ?_
                refine wpR_v (OpV_move rfl) rfl ?_
                refine wpR_gskip (b := true) (t := 137) rfl rfl rfl rfl ?_
                refine wpR_gskip (b := true) (t := 137) rfl rfl rfl rfl ?_
                refine wpR_gskip (b := true) (t := 137) rfl rfl rfl rfl ?_
                refine wpR_gskip (b := true) (t := 137) rfl rfl rfl rfl ?_
                refine wpR_v (OpV_pickT rfl rfl) rfl ?_
                refine wpR_v (OpV_move rfl) rfl ?_
                refine wpR_gskip (b := true) (t := 143) rfl rfl rfl rfl ?_
                refine wpR_gskip (b := true) (t := 143) rfl rfl rfl rfl ?_
                refine wpR_gskip (b := true) (t := 143) rfl rfl rfl rfl ?_
                refine wpR_gskip (b := true) (t := 143) rfl rfl rfl rfl ?_
                refine wpR_v (OpV_pickT rfl rfl) rfl ?_
                refine wpR_nil ?_
                refine QE_then_n ?_
                exact wpC_le _ (by exact ⟨rfl, rfl, rfl, rfl, rfl, trivial⟩) (hK_36 true _ _ ⟨rfl, (hS.pick [2, 1, 0] (by decide) rfl)⟩ h)
              case false =>
                have h := if_f h hb_76
                try simp only [hb_76]
                refine wpR_gv (t := 131) rfl rfl (OpV_move rfl) rfl ?_
                refine wpR_gv (t := 131) rfl rfl (OpV_move rfl) rfl ?_
                obtain ⟨x_77, hx_77, h⟩ := obind_some h
                refine wpR_gcall (t := 131) rfl rfl (by kernel_rfl) rfl (c_law18_still _ x_21.1 x_21.2 a1 v_22 va1 (hS.ro 2 rfl).rp hk_24 (ha1.now hS.fr).rp _ hx_77) rfl ?_
                rintro _ w ⟨rfl, hS1⟩
                have hS := hS.call hS1
                simp only [List.nil_append] at hS
                refine wpR_gv (t := 131) rfl rfl (OpV_un rfl (u_not x_77)) rfl ?_
                refine wpR_v (OpV_pickF rfl rfl) rfl ?_
                refine wpR_v (OpV_move rfl) rfl ?_
                cases hb_78 : (!x_77)
                case true =>
                  have h := if_t h hb_78
                  try simp only [hb_78]
                  refine wpR_gskip (b := true) (t := 137) rfl rfl rfl rfl ?_
                  refine wpR_gskip (b := true) (t := 137) rfl rfl rfl rfl ?_
                  refine wpR_gskip (b := true) (t := 137) rfl rfl rfl rfl ?_
                  refine wpR_gskip (b := true) (t := 137) rfl rfl rfl rfl ?_
                  refine wpR_v (OpV_pickT rfl rfl) rfl ?_
                  refine wpR_v (OpV_move rfl) rfl ?_
                  refine wpR_gskip (b := true) (t := 143) rfl rfl rfl rfl ?_
                  refine wpR_gskip (b := true) (t := 143) rfl rfl rfl rfl ?_
                  refine wpR_gskip (b := true) (t := 143) rfl rfl rfl rfl ?_
                  refine wpR_gskip (b := true) (t := 143) rfl rfl rfl rfl ?_
                  refine wpR_v (OpV_pickT rfl rfl) rfl ?_
                  refine wpR_nil ?_
                  refine QE_then_n ?_
                  exact wpC_le _ (by exact ⟨rfl, rfl, rfl, rfl, rfl, trivial⟩) (hK_36 true _ _ ⟨rfl, (hS.pick [2, 1, 0] (by decide) rfl)⟩ h)
                case false =>
                  have h := if_f h hb_78
                  try simp only [hb_78]
                  refine wpR_gv (t := 137) rfl rfl (OpV_move rfl) rfl ?_
                  refine wpR_gv (t := 137) rfl rfl (OpV_move rfl) rfl ?_
                  obtain ⟨x_79, hx_79, h⟩ := obind_some h
                  refine wpR_gcall (t := 137) rfl rfl (by kernel_rfl) rfl (c_law18_still _ x_25.1 x_25.2 a2 v_26 va2 (hS.ro 1 rfl).rp hk_28 (ha2.now hS.fr).rp _ hx_79) rfl ?_
                  rintro _ w ⟨rfl, hS1⟩
                  have hS := hS.call hS1
                  simp only [List.nil_append] at hS
                  refine wpR_gv (t := 137) rfl rfl (OpV_un rfl (u_not x_79)) rfl ?_
                  refine wpR_v (OpV_pickF rfl rfl) rfl ?_
                  refine wpR_v (OpV_move rfl) rfl ?_
                  cases hb_80 : (!x_79)
                  case true =>
                    have h := if_t h hb_80
                    try simp only [hb_80]
                    refine wpR_gskip (b := true) (t := 143) rfl rfl rfl rfl ?_
                    refine wpR_gskip (b := true) (t := 143) rfl rfl rfl rfl ?_
                    refine wpR_gskip (b := true) (t := 143) rfl rfl rfl rfl ?_
                    refine wpR_gskip (b := true) (t := 143) rfl rfl rfl rfl ?_
                    refine wpR_v (OpV_pickT rfl rfl) rfl ?_
                    refine wpR_nil ?_
                    refine QE_then_n ?_
                    exact wpC_le _ (by exact ⟨rfl, rfl, rfl, rfl, rfl, trivial⟩) (hK_36 true _ _ ⟨rfl, (hS.pick [2, 1, 0] (by decide) rfl)⟩ h)
                  case false =>
                    have h := if_f h hb_80
                    try simp only [hb_80]
                    refine wpR_gv (t := 143) rfl rfl (OpV_move rfl) rfl ?_
                    refine wpR_gv (t := 143) rfl rfl (OpV_move rfl) rfl ?_
                    obtain ⟨x_81, hx_81, h⟩ := obind_some h
                    refine wpR_gcall (t := 143) rfl rfl (by kernel_rfl) rfl (c_law18_still _ x_29.1 x_29.2 a3 v_30 va3 (hS.ro 0 rfl).rp hk_32 (ha3.now hS.fr).rp _ hx_81) rfl ?_
                    rintro _ w ⟨rfl, hS1⟩
                    have hS := hS.call hS1
                    simp only [List.nil_append] at hS
                    refine wpR_gv (t := 143) rfl rfl (OpV_un rfl (u_not x_81)) rfl ?_
                    refine wpR_v (OpV_pickF rfl rfl) rfl ?_
                    refine wpR_nil ?_
                    refine QE_then_n ?_
                    exact wpC_le _ (by exact ⟨rfl, rfl, rfl, rfl, rfl, trivial⟩) (hK_36 (!x_81) _ _ ⟨rfl, (hS.pick [2, 1, 0] (by decide) rfl)⟩ h)
      · intro hK_20
        refine wpC_region ?_
        refine wpR_v (OpV_move rfl) rfl ?_
        refine wpR_v (OpV_move rfl) rfl ?_
        obtain ⟨x_83, hx_83, h⟩ := obind_some h
        refine wpR_call (by kernel_rfl) rfl (c_law18_same _ x_5.1 x_12.1 v_6 v_13 (hS.ro 3 rfl).rp (hS.ro 0 rfl).rp _ hx_83) rfl ?_
        rintro _ w ⟨rfl, hS1⟩
        have hS := hS.call hS1
        simp only [List.nil_append] at hS
        refine wpR_v (OpV_un rfl (u_not x_83)) rfl ?_
        refine wpR_v (OpV_move rfl) rfl ?_
        cases hb_84 : (!x_83)
        case true =>
          have h := if_t h hb_84
          try simp only [hb_84]
          refine wpR_gskip (b := true) (t := 86) rfl rfl rfl rfl ?_
          refine wpR_gskip (b := true) (t := 86) rfl rfl rfl rfl ?_
          refine wpR_gskip (b := true) (t := 86) rfl rfl rfl rfl ?_
          refine wpR_gskip (b := true) (t := 86) rfl rfl rfl rfl ?_
          refine wpR_v (OpV_pickT rfl rfl) rfl ?_
          refine wpR_v (OpV_move rfl) rfl ?_
          refine wpR_gskip (b := true) (t := 92) rfl rfl rfl rfl ?_
          refine wpR_gskip (b := true) (t := 92) rfl rfl rfl rfl ?_
          refine wpR_gskip (b := true) (t := 92) rfl rfl rfl rfl ?_
          refine wpR_gskip (b := true) (t := 92) rfl rfl rfl rfl ?_
          refine wpR_v (OpV_pickT rfl rfl) rfl ?_
          refine wpR_v (OpV_move rfl) rfl ?_
          refine wpR_gskip (b := true) (t := 98) rfl rfl rfl rfl ?_
          refine wpR_gskip (b := true) (t := 98) rfl rfl rfl rfl ?_
          refine wpR_gskip (b := true) (t := 98) rfl rfl rfl rfl ?_
          refine wpR_v (OpV_pickT rfl rfl) rfl ?_
          refine wpR_nil ?_
          refine QE_then_n ?_
          exact wpC_le _ (by exact ⟨rfl, rfl, rfl, rfl, trivial⟩) (hK_20 true _ _ ⟨rfl, (hS.pick [] (by decide) rfl)⟩ h)
        case false =>
          have h := if_f h hb_84
          try simp only [hb_84]
          refine wpR_gv (t := 86) rfl rfl (OpV_move rfl) rfl ?_
          refine wpR_gv (t := 86) rfl rfl (OpV_move rfl) rfl ?_
          obtain ⟨x_85, hx_85, h⟩ := obind_some h
          refine wpR_gcall (t := 86) rfl rfl (by kernel_rfl) rfl (c_law18_same _ x_5.2.1 x_12.2.1 v_8 v_15 (hS.ro 4 rfl).rp (hS.ro 1 rfl).rp _ hx_85) rfl ?_
          rintro _ w ⟨rfl, hS1⟩
          have hS := hS.call hS1
          simp only [List.nil_append] at hS
          refine wpR_gv (t := 86) rfl rfl (OpV_un rfl (u_not x_85)) rfl ?_
          refine wpR_v (OpV_pickF rfl rfl) rfl ?_
          refine wpR_v (OpV_move rfl) rfl ?_
          cases hb_86 : (!x_85)
          case true =>
            have h := if_t h hb_86
            try simp only [hb_86]
            refine wpR_gskip (b := true) (t := 92) rfl rfl rfl rfl ?_
            refine wpR_gskip (b := true) (t := 92) rfl rfl rfl rfl ?_
            refine wpR_gskip (b := true) (t := 92) rfl rfl rfl rfl ?_
            refine wpR_gskip (b := true) (t := 92) rfl rfl rfl rfl ?_
            refine wpR_v (OpV_pickT rfl rfl) rfl ?_
            refine wpR_v (OpV_move rfl) rfl ?_
            refine wpR_gskip (b := true) (t := 98) rfl rfl rfl rfl ?_
            refine wpR_gskip (b := true) (t := 98) rfl rfl rfl rfl ?_
            refine wpR_gskip (b := true) (t := 98) rfl rfl rfl rfl ?_
            refine wpR_v (OpV_pickT rfl rfl) rfl ?_
            refine wpR_nil ?_
            refine QE_then_n ?_
            exact wpC_le _ (by exact ⟨rfl, rfl, rfl, rfl, trivial⟩) (hK_20 true _ _ ⟨rfl, (hS.pick [] (by decide) rfl)⟩ h)
          case false =>
            have h := if_f h hb_86
            try simp only [hb_86]
            refine wpR_gv (t := 92) rfl rfl (OpV_move rfl) rfl ?_
            refine wpR_gv (t := 92) rfl rfl (OpV_move rfl) rfl ?_
            obtain ⟨x_87, hx_87, h⟩ := obind_some h
            refine wpR_gcall (t := 92) rfl rfl (by kernel_rfl) rfl (c_law18_same _ x_5.2.2.1 x_12.2.2.1 v_10 v_17 (hS.ro 5 rfl).rp (hS.ro 2 rfl).rp _ hx_87) rfl ?_
            rintro _ w ⟨rfl, hS1⟩
            have hS := hS.call hS1
            simp only [List.nil_append] at hS
            refine wpR_gv (t := 92) rfl rfl (OpV_un rfl (u_not x_87)) rfl ?_
            refine wpR_v (OpV_pickF rfl rfl) rfl ?_
            refine wpR_v (OpV_move rfl) rfl ?_
            cases hb_88 : (!x_87)
            case true =>
              have h := if_t h hb_88
              try simp only [hb_88]
              refine wpR_gskip (b := true) (t := 98) rfl rfl rfl rfl ?_
              refine wpR_gskip (b := true) (t := 98) rfl rfl rfl rfl ?_
              refine wpR_gskip (b := true) (t := 98) rfl rfl rfl rfl ?_
              refine wpR_v (OpV_pickT rfl rfl) rfl ?_
              refine wpR_nil ?_
              refine QE_then_n ?_
              exact wpC_le _ (by exact ⟨rfl, rfl, rfl, rfl, trivial⟩) (hK_20 true _ _ ⟨rfl, (hS.pick [] (by decide) rfl)⟩ h)
            case false =>
              have h := if_f h hb_88
              try simp only [hb_88]
              refine wpR_gv (t := 98) rfl rfl (OpV_move rfl) rfl ?_
              refine wpR_gv (t := 98) rfl rfl (OpV_move rfl) rfl ?_
              refine wpR_gv (t := 98) rfl rfl (OpV_bin rfl rfl (b_ineq _ x_5.2.2.2 x_12.2.2.2)) rfl ?_
              refine wpR_v (OpV_pickF rfl rfl) rfl ?_
              refine wpR_nil ?_
              refine QE_then_n ?_
              exact wpC_le _ (by exact ⟨rfl, rfl, rfl, rfl, trivial⟩) (hK_20 (x_5.2.2.2 != x_12.2.2.2) _ _ ⟨rfl, (hS.pick [] (by decide) rfl)⟩ h)
  · intro hK_4
    refine wpC_region ?_
    refine wpR_v (OpV_move rfl) rfl ?_
    refine wpR_v (OpV_move rfl) rfl ?_
    refine wpR_v (OpV_bin rfl rfl (b_sneq _ x_1.1 x_2.1)) rfl ?_
    refine wpR_v (OpV_move rfl) rfl ?_
    cases hb_90 : (x_1.1 != x_2.1)
    case true =>
      have h := if_t h hb_90
      try simp only [hb_90]
      refine wpR_gskip (b := true) (t := 53) rfl rfl rfl rfl ?_
      refine wpR_gskip (b := true) (t := 53) rfl rfl rfl rfl ?_
      refine wpR_gskip (b := true) (t := 53) rfl rfl rfl rfl ?_
      refine wpR_v (OpV_pickT rfl rfl) rfl ?_
      refine wpR_v (OpV_move rfl) rfl ?_
      refine wpR_gskip (b := true) (t := 58) rfl rfl rfl rfl ?_
      refine wpR_gskip (b := true) (t := 58) rfl rfl rfl rfl ?_
      refine wpR_gskip (b := true) (t := 58) rfl rfl rfl rfl ?_
      refine wpR_v (OpV_pickT rfl rfl) rfl ?_
      refine wpR_v (OpV_move rfl) rfl ?_
      refine wpR_gskip (b := true) (t := 63) rfl rfl rfl rfl ?_
      refine wpR_gskip (b := true) (t := 63) rfl rfl rfl rfl ?_
      refine wpR_gskip (b := true) (t := 63) rfl rfl rfl rfl ?_
      refine wpR_v (OpV_pickT rfl rfl) rfl ?_
      refine wpR_nil ?_
      refine QE_then_n ?_
      exact wpC_le _ (by exact ⟨rfl, rfl, rfl, rfl, rfl, trivial⟩) (hK_4 true _ _ ⟨rfl, hS⟩ h)
    case false =>
      have h := if_f h hb_90
      try simp only [hb_90]
      refine wpR_gv (t := 53) rfl rfl (OpV_move rfl) rfl ?_
      refine wpR_gv (t := 53) rfl rfl (OpV_move rfl) rfl ?_
      refine wpR_gv (t := 53) rfl rfl (OpV_bin rfl rfl (b_sneq _ x_1.2.1 x_2.2.1)) rfl ?_
      refine wpR_v (OpV_pickF rfl rfl) rfl ?_
      refine wpR_v (OpV_move rfl) rfl ?_
      cases hb_91 : (x_1.2.1 != x_2.2.1)
      case true =>
        have h := if_t h hb_91
        try simp only [hb_91]
        refine wpR_gskip (b := true) (t := 58) rfl rfl rfl rfl ?_
        refine wpR_gskip (b := true) (t := 58) rfl rfl rfl rfl ?_
        refine wpR_gskip (b := true) (t := 58) rfl rfl rfl rfl ?_
        refine wpR_v (OpV_pickT rfl rfl) rfl ?_
        refine wpR_v (OpV_move rfl) rfl ?_
        refine wpR_gskip (b := true) (t := 63) rfl rfl rfl rfl ?_
        refine wpR_gskip (b := true) (t := 63) rfl rfl rfl rfl ?_
        refine wpR_gskip (b := true) (t := 63) rfl rfl rfl rfl ?_
        refine wpR_v (OpV_pickT rfl rfl) rfl ?_
        refine wpR_nil ?_
        refine QE_then_n ?_
        exact wpC_le _ (by exact ⟨rfl, rfl, rfl, rfl, rfl, trivial⟩) (hK_4 true _ _ ⟨rfl, hS⟩ h)
      case false =>
        have h := if_f h hb_91
        try simp only [hb_91]
        refine wpR_gv (t := 58) rfl rfl (OpV_move rfl) rfl ?_
        refine wpR_gv (t := 58) rfl rfl (OpV_move rfl) rfl ?_
        refine wpR_gv (t := 58) rfl rfl (OpV_bin rfl rfl (b_sneq _ x_1.2.2.1 x_2.2.2.1)) rfl ?_
        refine wpR_v (OpV_pickF rfl rfl) rfl ?_
        refine wpR_v (OpV_move rfl) rfl ?_
        cases hb_92 : (x_1.2.2.1 != x_2.2.2.1)
        case true =>
          have h := if_t h hb_92
          try simp only [hb_92]
          refine wpR_gskip (b := true) (t := 63) rfl rfl rfl rfl ?_
          refine wpR_gskip (b := true) (t := 63) rfl rfl rfl rfl ?_
          refine wpR_gskip (b := true) (t := 63) rfl rfl rfl rfl ?_
          refine wpR_v (OpV_pickT rfl rfl) rfl ?_
          refine wpR_nil ?_
          refine QE_then_n ?_
          exact wpC_le _ (by exact ⟨rfl, rfl, rfl, rfl, rfl, trivial⟩) (hK_4 true _ _ ⟨rfl, hS⟩ h)
        case false =>
          have h := if_f h hb_92
          try simp only [hb_92]
          refine wpR_gv (t := 63) rfl rfl (OpV_move rfl) rfl ?_
          refine wpR_gv (t := 63) rfl rfl (OpV_move rfl) rfl ?_
          refine wpR_gv (t := 63) rfl rfl (OpV_bin rfl rfl (b_ineq _ x_1.2.2.2 x_2.2.2.2)) rfl ?_
          refine wpR_v (OpV_pickF rfl rfl) rfl ?_
          refine wpR_nil ?_
          refine QE_then_n ?_
          exact wpC_le _ (by exact ⟨rfl, rfl, rfl, rfl, rfl, trivial⟩) (hK_4 (x_1.2.2.2 != x_2.2.2.2) _ _ ⟨rfl, hS⟩ h)
end Go.Proofs
