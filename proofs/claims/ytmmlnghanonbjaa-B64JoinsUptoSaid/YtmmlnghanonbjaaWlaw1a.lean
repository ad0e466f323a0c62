/- Walks: each Go function of package law1 computes its plain function. Written by a program of ours. -/
import Derived.Test.YtmmlnghanonbjaaW0
import Derived.Test.YtmmlnghanonbjaaGkFlaw1
import Derived.Test.YtmmlnghanonbjaaWb64
import Derived.Test.YtmmlnghanonbjaaWref1
set_option linter.unusedVariables false
set_option maxRecDepth 4000
namespace Go.Proofs
open Go Go.RowKit Go.Gk

theorem c_law1_roomy (w0 : World) (a0 : List UInt8) (va0 : Value) (ha0 : RP [] w0 e8 va0 a0) (r : (List UInt8 × Nat))
    (h : F.law1_roomy a0 = some r) : Calls Try.prog 10 #[va0] w0 (Ret fun v w => ∃ u0 : Value, v = slV u0 e8.sz 0 r.2 ∧ r.2 ≤ r.1.length ∧ St [] w0 w [own e8 u0 r.1]) := by
  refine calls_at 27 Try.func10 rfl rfl rfl ?_
  have hS := St.start w0
  refine wpC_le [(0, va0)] ⟨rfl, trivial⟩ ?_
  unfold F.law1_roomy at h
  refine wpC_seq ?_
  refine wpC_region ?_
  refine wpR_v (OpV_assign rfl) rfl ?_
  refine wpR_nil ?_
  refine QE_then_n ?_
  refine wpC_seq ?_
  refine wpC_region ?_
  refine wpR_v (OpV_move rfl) rfl ?_
  refine wpR_v (OpV_len Try.underlying22 rfl (ha0.now hS.fr)) rfl ?_
  refine wpR_v (OpV_bin rfl rfl (b_iadd _ (a0.length : Int) 9)) rfl ?_
  obtain ⟨x_1, hx_1, h⟩ := obind_some h
  refine wpR_x (G_make (e := e8) Try.underlying22 ti5 rfl rfl rfl hS hx_1) rfl ?_
  rintro v_2 w hS
  refine wpR_v (OpV_assign rfl) rfl ?_
  refine wpR_nil ?_
  refine QE_then_n ?_
  refine wpC_seq ?_
  refine wpC_region ?_
  refine wpR_v (OpV_move rfl) rfl ?_
  refine wpR_v (OpV_move rfl) rfl ?_
  refine wpR_x (G_copy (e := e8) Try.underlying22 ti5 rfl rfl rfl hS (i := 0) rfl (ha0.now hS.fr)) rfl ?_
  rintro _ w ⟨rfl, hS⟩
  obtain ⟨x_4, hx_4, h⟩ := olet_some h
  rw [hx_4] at hS
  refine wpR_nil ?_
  refine QE_then_n ?_
  refine wpC_seq ?_
  refine wpC_seq ?_
  refine wpC_region ?_
  refine wpR_v (OpV_move rfl) rfl ?_
  refine wpR_v (OpV_len Try.underlying22 rfl (ha0.now hS.fr)) rfl ?_
  refine wpR_v (OpV_assign rfl) rfl ?_
  refine wpR_nil ?_
  refine QE_then_n ?_
  refine wpC_block ?_
  refine wpC_le [(0, va0), (3, v_2), (4, vI (a0.length : Int))] ⟨rfl, rfl, rfl, trivial⟩ ?_
  refine loop_ind (F.law1_roomy_L1 a0) (fun (s : Int × List UInt8) L w => L = [(0, va0), (3, v_2), (4, vI s.1)] ∧ St [] w0 w [own e8 v_2 s.2]) ?_ ((a0.length : Int), x_4) ⟨rfl, hS⟩ h
  rintro k_14 ⟨x_5, x_6⟩ L w q_9 hI ih_8 h hk_7
  try dsimp only at hI
  obtain ⟨rfl, hS⟩ := hI
  unfold F.law1_roomy_L1 at h
  refine wpC_seq ?_
  refine wpC_seq ?_
  refine wpC_region ?_
  refine wpR_v (OpV_move rfl) rfl ?_
  refine wpR_v (OpV_move rfl) rfl ?_
  refine wpR_v (OpV_len Try.underlying22 rfl (hS.ro 0 rfl)) rfl ?_
  refine wpR_v (OpV_bin rfl rfl (b_ilss _ x_5 (x_6.length : Int))) rfl ?_
  refine wpR_nil ?_
  refine QE_then_n ?_
  refine wpC_cond rfl (fun hb_13 => ?_) (fun hb_13 => ?_)
  · have h := if_t h hb_13
    refine wpC_skip ?_
    refine QE_then_n ?_
    refine wpC_seq ?_
    refine wpC_block ?_
    refine wpC_region ?_
    refine wpR_v (OpV_move rfl) rfl ?_
    refine wpR_v (OpV_move rfl) rfl ?_
    obtain ⟨x_10, hx_10, h⟩ := obind_some h
    refine wpR_v (G_ix Try.underlying22 ti5 rfl rfl (hS.ro 0 rfl) hx_10) rfl ?_
    refine wpR_y (G_storeE (t := 165) ti5 rfl rfl hS (i := 0) rfl hx_10 rfl) ?_
    intro w hS
    obtain ⟨x_11, hx_11, h⟩ := olet_some h
    rw [hx_11] at hS
    refine wpR_nil ?_
    refine QE_blk_n ?_
    refine QE_then_n ?_
    refine wpC_region ?_
    refine wpR_v (OpV_move rfl) rfl ?_
    refine wpR_v (OpV_bin rfl rfl (b_iadd _ x_5 1)) rfl ?_
    refine wpR_v (OpV_assign rfl) rfl ?_
    refine wpR_nil ?_
    exact QE_rnd (wpN_le _ (by exact ⟨rfl, rfl, rfl, trivial⟩) (ih_8 (wI (x_5 + 1), x_11) _ _ ⟨rfl, hS⟩ (oinl_some h hk_7)))
  · have h := if_f h hb_13
    refine wpC_exit ?_
    refine QE_then_x ?_
    refine QE_then_x ?_
    have h := oinr_some h hk_7
    refine QE_blk_x ?_
    refine QE_then_n ?_
    refine wpC_seq ?_
    refine wpC_region ?_
    refine wpR_v (OpV_move rfl) rfl ?_
    refine wpR_v (OpV_move rfl) rfl ?_
    refine wpR_v (OpV_len Try.underlying22 rfl (ha0.now hS.fr)) rfl ?_
    obtain ⟨hg_12, h⟩ := grd_some h
    refine wpR_v (G_slh Try.underlying22 ti5 rfl rfl (hS.ro 0 rfl) (tkO_of hg_12)) rfl ?_
    refine wpR_v (OpV_assign rfl) rfl ?_
    refine wpR_nil ?_
    refine QE_then_n ?_
    refine wpC_ret ?_
    cases h
    exact QE_ret1 rfl rfl ⟨v_2, rfl, hg_12.2, hS.pick [0] (by decide) rfl⟩

theorem c_law1_same (w0 : World) (a0 : List UInt8) (a1 : List UInt8) (va0 : Value) (va1 : Value) (ha0 : RP [] w0 e8 va0 a0) (ha1 : RP [] w0 e8 va1 a1) (r : Bool)
    (h : F.law1_same a0 a1 = some r) : Calls Try.prog 18 #[va0, va1] w0 (Ret fun v w => v = vB r ∧ St [] w0 w []) := by
  refine calls_at 26 Try.func18 rfl rfl rfl ?_
  have hS := St.start w0
  refine wpC_le [(0, va0), (1, va1)] ⟨rfl, rfl, trivial⟩ ?_
  unfold F.law1_same at h
  refine wpC_seq ?_
  refine wpC_region ?_
  refine wpR_v (OpV_assign rfl) rfl ?_
  refine wpR_nil ?_
  refine QE_then_n ?_
  refine wpC_seq ?_
  refine wpC_seq ?_
  refine wpC_region ?_
  refine wpR_v (OpV_move rfl) rfl ?_
  refine wpR_v (OpV_len Try.underlying22 rfl (ha0.now hS.fr)) rfl ?_
  refine wpR_v (OpV_move rfl) rfl ?_
  refine wpR_v (OpV_len Try.underlying22 rfl (ha1.now hS.fr)) rfl ?_
  refine wpR_v (OpV_bin rfl rfl (b_ineq _ (a0.length : Int) (a1.length : Int))) rfl ?_
  refine wpR_nil ?_
  refine QE_then_n ?_
  refine wpC_cond rfl (fun hb_10 => ?_) (fun hb_10 => ?_)
  · have h := if_t h hb_10
    refine wpC_seq ?_
    refine wpC_region ?_
    refine wpR_v (OpV_assign rfl) rfl ?_
    refine wpR_nil ?_
    refine QE_then_n ?_
    refine wpC_ret ?_
    refine QE_then_r ?_
    cases h
    exact QE_ret1 rfl rfl ⟨rfl, hS⟩
  · have h := if_f h hb_10
    refine wpC_skip ?_
    refine QE_then_n ?_
    refine wpC_seq ?_
    refine wpC_seq ?_
    refine wpC_region ?_
    refine wpR_v (OpV_assign rfl) rfl ?_
    refine wpR_nil ?_
    refine QE_then_n ?_
    refine wpC_block ?_
    refine wpC_le [(0, va0), (1, va1), (5, vI 0)] ⟨rfl, rfl, rfl, trivial⟩ ?_
    refine loop_ind (F.law1_same_L1 a0 a1) (fun (s : Int) L w => L = [(0, va0), (1, va1), (5, vI s)] ∧ St [] w0 w []) ?_ 0 ⟨rfl, hS⟩ h
    rintro k_9 x_1 L w q_4 hI ih_3 h hk_2
    try dsimp only at hI
    obtain ⟨rfl, hS⟩ := hI
    unfold F.law1_same_L1 at h
    refine wpC_seq ?_
    refine wpC_seq ?_
    refine wpC_region ?_
    refine wpR_v (OpV_move rfl) rfl ?_
    refine wpR_v (OpV_move rfl) rfl ?_
    refine wpR_v (OpV_len Try.underlying22 rfl (ha0.now hS.fr)) rfl ?_
    refine wpR_v (OpV_bin rfl rfl (b_ilss _ x_1 (a0.length : Int))) rfl ?_
    refine wpR_nil ?_
    refine QE_then_n ?_
    refine wpC_cond rfl (fun hb_8 => ?_) (fun hb_8 => ?_)
    · have h := if_t h hb_8
      refine wpC_skip ?_
      refine QE_then_n ?_
      refine wpC_seq ?_
      refine wpC_block ?_
      refine wpC_seq ?_
      refine wpC_regionT (fun w' => St [] w0 w' []) (fun _ => true) hmix (fun _ _ _ hf => hf.2) (fun _ _ hf => hf) (by kernel_rfl) ?_
      have hS := hS.drew
      show lxE _ _ _ _ _ _ [0, 1, 2, 3, 4, 5, 6, 7, 8] _ _
      refine lxE_v hS rfl rfl (fun w hS => OpV_move rfl) rfl ?_
      refine lxE_v hS rfl rfl (fun w hS => OpV_move rfl) rfl ?_
      obtain ⟨x_5, hx_5, h⟩ := obind_some h
      refine lxE_v hS rfl rfl (fun w hS => G_ix Try.underlying22 ti5 rfl rfl (ha0.now hS.fr) hx_5) rfl ?_
      refine lxE_v hS rfl rfl (fun w hS => G_load Try.underlying5 rfl rfl (ha0.now hS.fr) hx_5 rfl) rfl ?_
      refine lxE_v hS rfl rfl (fun w hS => OpV_move rfl) rfl ?_
      refine lxE_v hS rfl rfl (fun w hS => OpV_move rfl) rfl ?_
      obtain ⟨x_6, hx_6, h⟩ := obind_some h
      refine lxE_v hS rfl rfl (fun w hS => G_ix Try.underlying22 ti5 rfl rfl (ha1.now hS.fr) hx_6) rfl ?_
      refine lxE_v hS rfl rfl (fun w hS => G_load Try.underlying5 rfl rfl (ha1.now hS.fr) hx_6 rfl) rfl ?_
      refine lxE_v hS rfl rfl (fun w hS => OpV_bin rfl rfl (b_neq8 _ x_5 x_6)) rfl ?_
      refine lxE_nil hS ?_
      refine QE_then_n ?_
      refine wpC_cond rfl (fun hb_7 => ?_) (fun hb_7 => ?_)
      · have h := if_t h hb_7
        refine wpC_seq ?_
        refine wpC_region ?_
        refine wpR_v (OpV_assign rfl) rfl ?_
        refine wpR_nil ?_
        refine QE_then_n ?_
        refine wpC_ret ?_
        refine QE_blk_r ?_
        refine QE_then_r ?_
        refine QE_then_r ?_
        have h := oinr_some h hk_2
        refine QE_blk_r ?_
        refine QE_then_r ?_
        cases h
        exact QE_ret1 rfl rfl ⟨rfl, hS⟩
      · have h := if_f h hb_7
        refine wpC_skip ?_
        refine QE_blk_n ?_
        refine QE_then_n ?_
        refine wpC_region ?_
        refine wpR_v (OpV_move rfl) rfl ?_
        refine wpR_v (OpV_bin rfl rfl (b_iadd _ x_1 1)) rfl ?_
        refine wpR_v (OpV_assign rfl) rfl ?_
        refine wpR_nil ?_
        exact QE_rnd (wpN_le _ (by exact ⟨rfl, rfl, rfl, trivial⟩) (ih_3 (wI (x_1 + 1)) _ _ ⟨rfl, hS⟩ (oinl_some h hk_2)))
    · have h := if_f h hb_8
      refine wpC_exit ?_
      refine QE_then_x ?_
      refine QE_then_x ?_
      have h := oinr_some h hk_2
      refine QE_blk_x ?_
      refine QE_then_n ?_
      refine wpC_seq ?_
      refine wpC_region ?_
      refine wpR_v (OpV_assign rfl) rfl ?_
      refine wpR_nil ?_
      refine QE_then_n ?_
      refine wpC_ret ?_
      cases h
      exact QE_ret1 rfl rfl ⟨rfl, hS⟩

theorem c_law1_spared (w0 : World) (a0 : List UInt8) (k0 : Nat) (a1 : List UInt8) (va0 : Value) (va1 : Value) (ha0 : RP [] w0 e8 va0 a0) (hk0 : k0 ≤ a0.length) (ha1 : RP [] w0 e8 va1 a1) (r : Bool)
    (h : F.law1_spared a0 k0 a1 = some r) : Calls Try.prog 15 #[slV va0 e8.sz 0 k0, va1] w0 (Ret fun v w => v = vB r ∧ St [] w0 w []) := by
  refine calls_at 28 Try.func15 rfl rfl rfl ?_
  have hS := St.start w0
  refine wpC_le [(0, slV va0 e8.sz 0 k0), (1, va1)] ⟨rfl, rfl, trivial⟩ ?_
  unfold F.law1_spared at h
  refine wpC_seq ?_
  refine wpC_region ?_
  refine wpR_v (OpV_assign rfl) rfl ?_
  refine wpR_nil ?_
  refine QE_then_n ?_
  refine wpC_seq ?_
  refine wpC_region ?_
  refine wpR_v (OpV_move rfl) rfl ?_
  refine wpR_v (OpV_move rfl) rfl ?_
  refine wpR_v (OpV_len Try.underlying22 rfl (ha1.now hS.fr)) rfl ?_
  refine wpR_v (OpV_bin rfl rfl (b_iadd _ (a1.length : Int) 9)) rfl ?_
  obtain ⟨hg_1, h⟩ := grd_some h
  refine wpR_v (G_slh_room Try.underlying22 ti5 rfl rfl (ha0.now hS.fr) (tkO_of hg_1)) rfl ?_
  refine wpR_v (OpV_assign rfl) rfl ?_
  refine wpR_nil ?_
  refine QE_then_n ?_
  refine wpC_seq ?_
  refine wpC_seq ?_
  refine wpC_region ?_
  refine wpR_v (OpV_move rfl) rfl ?_
  refine wpR_v (OpV_len Try.underlying22 rfl (ha1.now hS.fr)) rfl ?_
  refine wpR_v (OpV_assign rfl) rfl ?_
  refine wpR_nil ?_
  refine QE_then_n ?_
  refine wpC_block ?_
  refine wpC_le [(0, slV va0 e8.sz 0 k0), (1, va1), (5, slV va0 e8.sz 0 ((wI ((a1.length : Int) + 9) : Int).toNat)), (6, vI (a1.length : Int))] ⟨rfl, rfl, rfl, rfl, trivial⟩ ?_
  refine loop_ind (F.law1_spared_L1 a0 k0 a1) (fun (s : Int) L w => L = [(0, slV va0 e8.sz 0 k0), (1, va1), (5, slV va0 e8.sz 0 ((wI ((a1.length : Int) + 9) : Int).toNat)), (6, vI s)] ∧ St [] w0 w []) ?_ (a1.length : Int) ⟨rfl, hS⟩ h
  rintro k_10 x_2 L w q_5 hI ih_4 h hk_3
  try dsimp only at hI
  obtain ⟨rfl, hS⟩ := hI
  unfold F.law1_spared_L1 at h
  refine wpC_seq ?_
  refine wpC_seq ?_
  refine wpC_region ?_
  refine wpR_v (OpV_move rfl) rfl ?_
  refine wpR_v (OpV_move rfl) rfl ?_
  refine wpR_v (OpV_len Try.underlying22 rfl ((ha0.now hS.fr).tk hg_1.2)) rfl ?_
  refine wpR_v (OpV_bin rfl rfl (b_ilss _ x_2 ((a0.take ((wI ((a1.length : Int) + 9) : Int).toNat)).length : Int))) rfl ?_
  refine wpR_nil ?_
  refine QE_then_n ?_
  refine wpC_cond rfl (fun hb_9 => ?_) (fun hb_9 => ?_)
  · have h := if_t h hb_9
    refine wpC_skip ?_
    refine QE_then_n ?_
    refine wpC_seq ?_
    refine wpC_block ?_
    refine wpC_seq ?_
    refine wpC_region ?_
    refine wpR_v (OpV_move rfl) rfl ?_
    refine wpR_v (OpV_move rfl) rfl ?_
    obtain ⟨x_6, hx_6, h⟩ := obind_some h
    refine wpR_v (G_ix_room Try.underlying22 ti5 rfl rfl (ha0.now hS.fr) hg_1.2 hx_6) rfl ?_
    refine wpR_v (G_load Try.underlying5 rfl rfl (ha0.now hS.fr) (getO_take hx_6) rfl) rfl ?_
    refine wpR_v (OpV_bin rfl rfl (b_neq8 _ x_6 165)) rfl ?_
    refine wpR_nil ?_
    refine QE_then_n ?_
    refine wpC_cond rfl (fun hb_7 => ?_) (fun hb_7 => ?_)
    · have h := if_t h hb_7
      refine wpC_seq ?_
      refine wpC_region ?_
      refine wpR_v (OpV_assign rfl) rfl ?_
      refine wpR_nil ?_
      refine QE_then_n ?_
      refine wpC_ret ?_
      refine QE_blk_r ?_
      refine QE_then_r ?_
      refine QE_then_r ?_
      have h := oinr_some h hk_3
      refine QE_blk_r ?_
      refine QE_then_r ?_
      cases h
      exact QE_ret1 rfl rfl ⟨rfl, hS⟩
    · have h := if_f h hb_7
      refine wpC_skip ?_
      refine QE_blk_n ?_
      refine QE_then_n ?_
      refine wpC_region ?_
      refine wpR_v (OpV_move rfl) rfl ?_
      refine wpR_v (OpV_bin rfl rfl (b_iadd _ x_2 1)) rfl ?_
      refine wpR_v (OpV_assign rfl) rfl ?_
      refine wpR_nil ?_
      exact QE_rnd (wpN_le _ (by exact ⟨rfl, rfl, rfl, rfl, trivial⟩) (ih_4 (wI (x_2 + 1)) _ _ ⟨rfl, hS⟩ (oinl_some h hk_3)))
  · have h := if_f h hb_9
    refine wpC_exit ?_
    refine QE_then_x ?_
    refine QE_then_x ?_
    have h := oinr_some h hk_3
    refine QE_blk_x ?_
    refine QE_then_n ?_
    refine wpC_seq ?_
    refine wpC_region ?_
    refine wpR_v (OpV_move rfl) rfl ?_
    refine wpR_v (OpV_move rfl) rfl ?_
    obtain ⟨x_8, hx_8, h⟩ := obind_some h
    refine wpR_call (by kernel_rfl) rfl (c_law1_same _ (a0.take k0) a1 (slV va0 e8.sz 0 k0) va1 ((ha0.now hS.fr).tk hk0).rp (ha1.now hS.fr).rp _ hx_8) rfl ?_
    rintro _ w ⟨rfl, hS1⟩
    have hS := hS.call hS1
    simp only [List.nil_append] at hS
    refine wpR_v (OpV_assign rfl) rfl ?_
    refine wpR_nil ?_
    refine QE_then_n ?_
    refine wpC_ret ?_
    cases h
    exact QE_ret1 rfl rfl ⟨rfl, hS⟩

theorem c_law1_B64Encodes (w0 : World) (a0 : List UInt8) (va0 : Value) (ha0 : RP [] w0 e8 va0 a0) (r : Bool)
    (h : F.law1_B64Encodes a0 = some r) : Calls Try.prog 3 #[va0] w0 (Ret fun v w => v = vB r ∧ St [] w0 w []) := by
  refine calls_at 59 Try.func3 rfl rfl rfl ?_
  have hS := St.start w0
  refine wpC_le [(0, va0)] ⟨rfl, trivial⟩ ?_
  unfold F.law1_B64Encodes at h
  refine wpC_seq ?_
  refine wpC_region ?_
  refine wpR_v (OpV_assign rfl) rfl ?_
  refine wpR_nil ?_
  refine QE_then_n ?_
  refine wpC_seq ?_
  refine wpC_region ?_
  refine wpR_v (OpV_move rfl) rfl ?_
  obtain ⟨x_1, hx_1, h⟩ := obind_some h
  refine wpR_call (by kernel_rfl) rfl (c_law1_roomy _ a0 va0 (ha0.now hS.fr).rp _ hx_1) rfl ?_
  rintro _ w ⟨v_2, rfl, hk_4, hS1⟩
  have hS := hS.call hS1
  simp only [List.cons_append, List.nil_append] at hS
  refine wpR_v (OpV_assign rfl) rfl ?_
  refine wpR_nil ?_
  refine QE_then_n ?_
  refine wpC_seq ?_
  refine wpC_region ?_
  refine wpR_v (OpV_move rfl) rfl ?_
  obtain ⟨x_5, hx_5, h⟩ := obind_some h
  refine wpR_call (by kernel_rfl) rfl (c_b64_Encode _ (x_1.1.take x_1.2) (slV v_2 e8.sz 0 x_1.2) ((hS.ro 0 rfl).tk hk_4).rp _ hx_5) rfl ?_
  rintro _ w ⟨rfl, hS1⟩
  have hS := hS.call hS1
  simp only [List.nil_append] at hS
  refine wpR_v (OpV_assign rfl) rfl ?_
  refine wpR_nil ?_
  refine QE_then_n ?_
  refine wpC_seq ?_
  refine wpC_region ?_
  refine wpR_v (OpV_move rfl) rfl ?_
  obtain ⟨x_6, hx_6, h⟩ := obind_some h
  refine wpR_call (by kernel_rfl) rfl (c_b64_EncodeStd _ (x_1.1.take x_1.2) (slV v_2 e8.sz 0 x_1.2) ((hS.ro 0 rfl).tk hk_4).rp _ hx_6) rfl ?_
  rintro _ w ⟨rfl, hS1⟩
  have hS := hS.call hS1
  simp only [List.nil_append] at hS
  refine wpR_v (OpV_assign rfl) rfl ?_
  refine wpR_nil ?_
  refine QE_then_n ?_
  refine wpC_seq ?_
  refine seq_join (r := r) (fun (g : Bool) L w => L = [(3, slV v_2 e8.sz 0 x_1.2), (30, vB g)] ∧ St [] w0 w [own e8 v_2 x_1.1]) (F.law1_B64Encodes_K1 x_1) ?_ ?_
  · rintro x_7 L w hJ h
    try dsimp only at hJ
    obtain ⟨rfl, hS⟩ := hJ
    unfold F.law1_B64Encodes_K1 at h
    refine wpC_cond rfl (fun hb_25 => ?_) (fun hb_25 => ?_)
    · have h := if_t h hb_25
      refine wpC_seq ?_
      refine wpC_region ?_
      refine wpR_v (OpV_assign rfl) rfl ?_
      refine wpR_nil ?_
      refine QE_then_n ?_
      refine wpC_ret ?_
      refine QE_then_r ?_
      cases h
      exact QE_ret1 rfl rfl ⟨rfl, hS.pick [] (by decide) rfl⟩
    · have h := if_f h hb_25
      refine wpC_skip ?_
      refine QE_then_n ?_
      refine wpC_seq ?_
      refine wpC_seq ?_
      refine wpC_region ?_
      refine wpR_v (OpV_assign rfl) rfl ?_
      refine wpR_nil ?_
      refine QE_then_n ?_
      refine wpC_block ?_
      refine wpC_le [(3, slV v_2 e8.sz 0 x_1.2), (6, vI 0)] ⟨rfl, rfl, trivial⟩ ?_
      refine loop_ind (F.law1_B64Encodes_L1 x_1) (fun (s : Int × List UInt8) L w => L = [(3, slV v_2 e8.sz 0 x_1.2), (6, vI s.1)] ∧ x_1.2 ≤ s.2.length ∧ St [] w0 w [own e8 v_2 s.2]) ?_ (0, x_1.1) ⟨rfl, hk_4, hS⟩ h
      rintro k_24 ⟨x_9, x_10⟩ L w q_14 hI ih_13 h hk_12
      try dsimp only at hI
      obtain ⟨rfl, hK_11, hS⟩ := hI
      unfold F.law1_B64Encodes_L1 at h
      refine wpC_seq ?_
      refine wpC_seq ?_
      refine wpC_region ?_
      refine wpR_v (OpV_move rfl) rfl ?_
      refine wpR_v (OpV_move rfl) rfl ?_
      refine wpR_v (OpV_len Try.underlying22 rfl ((hS.ro 0 rfl).tk hK_11)) rfl ?_
      refine wpR_v (OpV_bin rfl rfl (b_ilss _ x_9 ((x_10.take x_1.2).length : Int))) rfl ?_
      refine wpR_nil ?_
      refine QE_then_n ?_
      refine wpC_cond rfl (fun hb_23 => ?_) (fun hb_23 => ?_)
      · have h := if_t h hb_23
        refine wpC_skip ?_
        refine QE_then_n ?_
        refine wpC_seq ?_
        refine wpC_block ?_
        refine wpC_region ?_
        refine wpR_v (OpV_move rfl) rfl ?_
        refine wpR_v (OpV_move rfl) rfl ?_
        refine wpR_v (OpV_move rfl) rfl ?_
        refine wpR_v (OpV_move rfl) rfl ?_
        obtain ⟨x_15, hx_15, h⟩ := obind_some h
        refine wpR_v (G_ix_room Try.underlying22 ti5 rfl rfl (hS.ro 0 rfl) hK_11 hx_15) rfl ?_
        refine wpR_v (G_load Try.underlying5 rfl rfl (hS.ro 0 rfl) (getO_take hx_15) rfl) rfl ?_
        refine wpR_v (OpV_bin rfl rfl (b_sub8 _ 255 x_15)) rfl ?_
        obtain ⟨x_16, hx_16, h⟩ := obind_some h
        refine wpR_v (G_ix_room Try.underlying22 ti5 rfl rfl (hS.ro 0 rfl) hK_11 hx_16) rfl ?_
        refine wpR_y (G_storeE (t := (255 - x_15)) ti5 rfl rfl hS (i := 0) rfl (getO_take hx_16) rfl) ?_
        intro w hS
        obtain ⟨x_17, hx_17, h⟩ := olet_some h
        rw [hx_17] at hS
        refine wpR_nil ?_
        refine QE_blk_n ?_
        refine QE_then_n ?_
        refine wpC_region ?_
        refine wpR_v (OpV_move rfl) rfl ?_
        refine wpR_v (OpV_bin rfl rfl (b_iadd _ x_9 1)) rfl ?_
        refine wpR_v (OpV_assign rfl) rfl ?_
        refine wpR_nil ?_
        exact QE_rnd (wpN_le _ (by exact ⟨rfl, rfl, trivial⟩) (ih_13 (wI (x_9 + 1), x_17) _ _ ⟨rfl, (by rw [← hx_17, List.length_set]; exact hK_11), hS⟩ (oinl_some h hk_12)))
      · have h := if_f h hb_23
        refine wpC_exit ?_
        refine QE_then_x ?_
        refine QE_then_x ?_
        have h := oinr_some h hk_12
        refine QE_blk_x ?_
        refine QE_then_n ?_
        refine wpC_seq ?_
        refine wpC_region ?_
        refine wpR_v (OpV_move rfl) rfl ?_
        obtain ⟨x_18, hx_18, h⟩ := obind_some h
        refine wpR_call (by kernel_rfl) rfl (c_ref1_Encode _ (x_10.take x_1.2) (slV v_2 e8.sz 0 x_1.2) ((hS.ro 0 rfl).tk hK_11).rp _ hx_18) rfl ?_
        rintro _ w ⟨rfl, hS1⟩
        have hS := hS.call hS1
        simp only [List.nil_append] at hS
        refine wpR_v (OpV_assign rfl) rfl ?_
        refine wpR_nil ?_
        refine QE_then_n ?_
        refine wpC_seq ?_
        refine wpC_region ?_
        refine wpR_v (OpV_move rfl) rfl ?_
        obtain ⟨x_19, hx_19, h⟩ := obind_some h
        refine wpR_call (by kernel_rfl) rfl (c_ref1_EncodeStd _ (x_10.take x_1.2) (slV v_2 e8.sz 0 x_1.2) ((hS.ro 0 rfl).tk hK_11).rp _ hx_19) rfl ?_
        rintro _ w ⟨rfl, hS1⟩
        have hS := hS.call hS1
        simp only [List.nil_append] at hS
        refine wpR_v (OpV_assign rfl) rfl ?_
        refine wpR_nil ?_
        refine QE_then_n ?_
        refine wpC_seq ?_
        refine wpC_region ?_
        refine wpR_v (OpV_move rfl) rfl ?_
        obtain ⟨x_20, hx_20, h⟩ := obind_some h
        refine wpR_call (by kernel_rfl) rfl (c_b64_Encode _ (x_10.take x_1.2) (slV v_2 e8.sz 0 x_1.2) ((hS.ro 0 rfl).tk hK_11).rp _ hx_20) rfl ?_
        rintro _ w ⟨rfl, hS1⟩
        have hS := hS.call hS1
        simp only [List.nil_append] at hS
        refine wpR_v (OpV_move rfl) rfl ?_
        refine wpR_v (OpV_bin rfl rfl (b_seql _ x_20 x_18)) rfl ?_
        refine wpR_v (OpV_move rfl) rfl ?_
        cases hb_21 : (x_20 == x_18)
        case true =>
          have h := if_t h hb_21
          try simp only [hb_21]
          refine wpR_gv (t := 53) rfl rfl (OpV_move rfl) rfl ?_
          obtain ⟨x_22, hx_22, h⟩ := obind_some h
          refine wpR_gcall (t := 53) rfl rfl (by kernel_rfl) rfl (c_b64_EncodeStd _ (x_10.take x_1.2) (slV v_2 e8.sz 0 x_1.2) ((hS.ro 0 rfl).tk hK_11).rp _ hx_22) rfl ?_
          rintro _ w ⟨rfl, hS1⟩
          have hS := hS.call hS1
          simp only [List.nil_append] at hS
          refine wpR_gv (t := 53) rfl rfl (OpV_move rfl) rfl ?_
          refine wpR_gv (t := 53) rfl rfl (OpV_bin rfl rfl (b_seql _ x_22 x_19)) rfl ?_
          refine wpR_v (OpV_pickT rfl rfl) rfl ?_
          refine wpR_v (OpV_assign rfl) rfl ?_
          refine wpR_nil ?_
          refine QE_then_n ?_
          refine wpC_ret ?_
          cases h
          exact QE_ret1 rfl rfl ⟨rfl, hS.pick [] (by decide) rfl⟩
        case false =>
          have h := if_f h hb_21
          try simp only [hb_21]
          refine wpR_gskip (b := false) (t := 53) rfl rfl rfl rfl ?_
          refine wpR_gskip (b := false) (t := 53) rfl rfl rfl rfl ?_
          refine wpR_gskip (b := false) (t := 53) rfl rfl rfl rfl ?_
          refine wpR_gskip (b := false) (t := 53) rfl rfl rfl rfl ?_
          refine wpR_v (OpV_pickF rfl rfl) rfl ?_
          refine wpR_v (OpV_assign rfl) rfl ?_
          refine wpR_nil ?_
          refine QE_then_n ?_
          refine wpC_ret ?_
          cases h
          exact QE_ret1 rfl rfl ⟨rfl, hS.pick [] (by decide) rfl⟩
  · intro hK_8
    refine wpC_region ?_
    refine wpR_v (OpV_move rfl) rfl ?_
    refine wpR_v (OpV_move rfl) rfl ?_
    obtain ⟨x_26, hx_26, h⟩ := obind_some h
    refine wpR_call (by kernel_rfl) rfl (c_ref1_Encode _ a0 va0 (ha0.now hS.fr).rp _ hx_26) rfl ?_
    rintro _ w ⟨rfl, hS1⟩
    have hS := hS.call hS1
    simp only [List.nil_append] at hS
    refine wpR_v (OpV_bin rfl rfl (b_sneq _ x_5 x_26)) rfl ?_
    refine wpR_v (OpV_move rfl) rfl ?_
    cases hb_27 : (x_5 != x_26)
    case true =>
      have h := if_t h hb_27
      try simp only [hb_27]
      refine wpR_gskip (b := true) (t := 19) rfl rfl rfl rfl ?_
      refine wpR_gskip (b := true) (t := 19) rfl rfl rfl rfl ?_
      refine wpR_gskip (b := true) (t := 19) rfl rfl rfl rfl ?_
      refine wpR_gskip (b := true) (t := 19) rfl rfl rfl rfl ?_
      refine wpR_v (OpV_pickT rfl rfl) rfl ?_
      refine wpR_v (OpV_move rfl) rfl ?_
      refine wpR_gskip (b := true) (t := 25) rfl rfl rfl rfl ?_
      refine wpR_gskip (b := true) (t := 25) rfl rfl rfl rfl ?_
      refine wpR_gskip (b := true) (t := 25) rfl rfl rfl rfl ?_
      refine wpR_gskip (b := true) (t := 25) rfl rfl rfl rfl ?_
      refine wpR_v (OpV_pickT rfl rfl) rfl ?_
      refine wpR_nil ?_
      refine QE_then_n ?_
      exact wpC_le _ (by exact ⟨rfl, rfl, trivial⟩) (hK_8 true _ _ ⟨rfl, hS⟩ h)
    case false =>
      have h := if_f h hb_27
      try simp only [hb_27]
      refine wpR_gv (t := 19) rfl rfl (OpV_move rfl) rfl ?_
      refine wpR_gv (t := 19) rfl rfl (OpV_move rfl) rfl ?_
      obtain ⟨x_28, hx_28, h⟩ := obind_some h
      refine wpR_gcall (t := 19) rfl rfl (by kernel_rfl) rfl (c_ref1_EncodeStd _ a0 va0 (ha0.now hS.fr).rp _ hx_28) rfl ?_
      rintro _ w ⟨rfl, hS1⟩
      have hS := hS.call hS1
      simp only [List.nil_append] at hS
      refine wpR_gv (t := 19) rfl rfl (OpV_bin rfl rfl (b_sneq _ x_6 x_28)) rfl ?_
      refine wpR_v (OpV_pickF rfl rfl) rfl ?_
      refine wpR_v (OpV_move rfl) rfl ?_
      cases hb_29 : (x_6 != x_28)
      case true =>
        have h := if_t h hb_29
        try simp only [hb_29]
        refine wpR_gskip (b := true) (t := 25) rfl rfl rfl rfl ?_
        refine wpR_gskip (b := true) (t := 25) rfl rfl rfl rfl ?_
        refine wpR_gskip (b := true) (t := 25) rfl rfl rfl rfl ?_
        refine wpR_gskip (b := true) (t := 25) rfl rfl rfl rfl ?_
        refine wpR_v (OpV_pickT rfl rfl) rfl ?_
        refine wpR_nil ?_
        refine QE_then_n ?_
        exact wpC_le _ (by exact ⟨rfl, rfl, trivial⟩) (hK_8 true _ _ ⟨rfl, hS⟩ h)
      case false =>
        have h := if_f h hb_29
        try simp only [hb_29]
        refine wpR_gv (t := 25) rfl rfl (OpV_move rfl) rfl ?_
        refine wpR_gv (t := 25) rfl rfl (OpV_move rfl) rfl ?_
        obtain ⟨x_30, hx_30, h⟩ := obind_some h
        refine wpR_gcall (t := 25) rfl rfl (by kernel_rfl) rfl (c_law1_spared _ x_1.1 x_1.2 a0 v_2 va0 (hS.ro 0 rfl).rp hk_4 (ha0.now hS.fr).rp _ hx_30) rfl ?_
        rintro _ w ⟨rfl, hS1⟩
        have hS := hS.call hS1
        simp only [List.nil_append] at hS
        refine wpR_gv (t := 25) rfl rfl (OpV_un rfl (u_not x_30)) rfl ?_
        refine wpR_v (OpV_pickF rfl rfl) rfl ?_
        refine wpR_nil ?_
        refine QE_then_n ?_
        exact wpC_le _ (by exact ⟨rfl, rfl, trivial⟩) (hK_8 (!x_30) _ _ ⟨rfl, hS⟩ h)

theorem c_law1_B64Decodes (w0 : World) (a0 : List UInt8)   (r : Bool)
    (h : F.law1_B64Decodes a0 = some r) : Calls Try.prog 4 #[vS a0] w0 (Ret fun v w => v = vB r ∧ St [] w0 w []) := by
  refine calls_at 60 Try.func4 rfl rfl rfl ?_
  have hS := St.start w0
  refine wpC_le [(0, vS a0)] ⟨rfl, trivial⟩ ?_
  unfold F.law1_B64Decodes at h
  refine wpC_seq ?_
  refine wpC_region ?_
  refine wpR_v (OpV_assign rfl) rfl ?_
  refine wpR_nil ?_
  refine QE_then_n ?_
  refine wpC_seq ?_
  refine wpC_region ?_
  refine wpR_v (OpV_move rfl) rfl ?_
  obtain ⟨x_1, hx_1, h⟩ := obind_some h
  refine wpR_call (by kernel_rfl) rfl (c_b64_Decode _ a0   _ hx_1) rfl ?_
  rintro _ w ⟨v_2, rfl, hS1⟩
  have hS := hS.call hS1
  simp only [List.cons_append, List.nil_append] at hS
  refine wpR_v (OpV_move rfl) rfl ?_
  refine wpR_v (OpV_extract rfl rfl) rfl ?_
  refine wpR_v (OpV_extract rfl rfl) rfl ?_
  refine wpR_v (OpV_extract rfl rfl) rfl ?_
  refine wpR_v (OpV_assign rfl) rfl ?_
  refine wpR_v (OpV_assign rfl) rfl ?_
  refine wpR_v (OpV_assign rfl) rfl ?_
  refine wpR_nil ?_
  refine QE_then_n ?_
  refine wpC_seq ?_
  refine wpC_region ?_
  refine wpR_v (OpV_move rfl) rfl ?_
  obtain ⟨x_4, hx_4, h⟩ := obind_some h
  refine wpR_call (by kernel_rfl) rfl (c_ref1_Decode _ a0   _ hx_4) rfl ?_
  rintro _ w ⟨v_5, rfl, hS1⟩
  have hS := hS.call hS1
  simp only [List.cons_append, List.nil_append] at hS
  refine wpR_v (OpV_move rfl) rfl ?_
  refine wpR_v (OpV_extract rfl rfl) rfl ?_
  refine wpR_v (OpV_extract rfl rfl) rfl ?_
  refine wpR_v (OpV_extract rfl rfl) rfl ?_
  refine wpR_v (OpV_assign rfl) rfl ?_
  refine wpR_v (OpV_assign rfl) rfl ?_
  refine wpR_v (OpV_assign rfl) rfl ?_
  refine wpR_nil ?_
  refine QE_then_n ?_
  refine wpC_seq ?_
  refine seq_join (r := r) (fun (g : Bool) L w => L = [(0, vS a0), (34, vB g)] ∧ St [] w0 w []) (F.law1_B64Decodes_K1 a0) ?_ ?_
  · rintro x_7 L w hJ h
    try dsimp only at hJ
    obtain ⟨rfl, hS⟩ := hJ
    unfold F.law1_B64Decodes_K1 at h
    refine wpC_cond rfl (fun hb_18 => ?_) (fun hb_18 => ?_)
    · have h := if_t h hb_18
      refine wpC_seq ?_
      refine wpC_region ?_
      refine wpR_v (OpV_assign rfl) rfl ?_
      refine wpR_nil ?_
      refine QE_then_n ?_
      refine wpC_ret ?_
      refine QE_then_r ?_
      cases h
      exact QE_ret1 rfl rfl ⟨rfl, hS⟩
    · have h := if_f h hb_18
      refine wpC_skip ?_
      refine QE_then_n ?_
      refine wpC_seq ?_
      refine wpC_region ?_
      refine wpR_v (OpV_move rfl) rfl ?_
      obtain ⟨x_9, hx_9, h⟩ := obind_some h
      refine wpR_call (by kernel_rfl) rfl (c_b64_DecodeStd _ a0   _ hx_9) rfl ?_
      rintro _ w ⟨v_10, rfl, hS1⟩
      have hS := hS.call hS1
      simp only [List.cons_append, List.nil_append] at hS
      refine wpR_v (OpV_move rfl) rfl ?_
      refine wpR_v (OpV_extract rfl rfl) rfl ?_
      refine wpR_v (OpV_extract rfl rfl) rfl ?_
      refine wpR_v (OpV_extract rfl rfl) rfl ?_
      refine wpR_v (OpV_assign rfl) rfl ?_
      refine wpR_v (OpV_assign rfl) rfl ?_
      refine wpR_v (OpV_assign rfl) rfl ?_
      refine wpR_nil ?_
      refine QE_then_n ?_
      refine wpC_seq ?_
      refine wpC_region ?_
      refine wpR_v (OpV_move rfl) rfl ?_
      obtain ⟨x_12, hx_12, h⟩ := obind_some h
      refine wpR_call (by kernel_rfl) rfl (c_ref1_DecodeStd _ a0   _ hx_12) rfl ?_
      rintro _ w ⟨v_13, rfl, hS1⟩
      have hS := hS.call hS1
      simp only [List.cons_append, List.nil_append] at hS
      refine wpR_v (OpV_move rfl) rfl ?_
      refine wpR_v (OpV_extract rfl rfl) rfl ?_
      refine wpR_v (OpV_extract rfl rfl) rfl ?_
      refine wpR_v (OpV_extract rfl rfl) rfl ?_
      refine wpR_v (OpV_assign rfl) rfl ?_
      refine wpR_v (OpV_assign rfl) rfl ?_
      refine wpR_v (OpV_assign rfl) rfl ?_
      refine wpR_nil ?_
      refine QE_then_n ?_
      refine wpC_seq ?_
      refine wpC_region ?_
      refine wpR_v (OpV_move rfl) rfl ?_
      refine wpR_v (OpV_move rfl) rfl ?_
      refine wpR_v (OpV_bin rfl rfl (b_ieql _ x_9.2.1 x_12.2.1)) rfl ?_
      refine wpR_v (OpV_move rfl) rfl ?_
      cases hb_15 : (x_9.2.1 == x_12.2.1)
      case true =>
        have h := if_t h hb_15
        try simp only [hb_15]
        refine wpR_gv (t := 50) rfl rfl (OpV_move rfl) rfl ?_
        refine wpR_gv (t := 50) rfl rfl (OpV_move rfl) rfl ?_
        refine wpR_gv (t := 50) rfl rfl (OpV_bin rfl rfl (b_ieql _ x_9.2.2 x_12.2.2)) rfl ?_
        refine wpR_v (OpV_pickT rfl rfl) rfl ?_
        refine wpR_v (OpV_move rfl) rfl ?_
        cases hb_16 : (x_9.2.2 == x_12.2.2)
        case true =>
          have h := if_t h hb_16
          try simp only [hb_16]
          refine wpR_gv (t := 55) rfl rfl (OpV_move rfl) rfl ?_
          refine wpR_gv (t := 55) rfl rfl (OpV_move rfl) rfl ?_
          obtain ⟨x_17, hx_17, h⟩ := obind_some h
          refine wpR_gcall (t := 55) rfl rfl (by kernel_rfl) rfl (c_law1_same _ x_9.1 x_12.1 v_10 v_13 (hS.ro 1 rfl).rp (hS.ro 0 rfl).rp _ hx_17) rfl ?_
          rintro _ w ⟨rfl, hS1⟩
          have hS := hS.call hS1
          simp only [List.nil_append] at hS
          refine wpR_v (OpV_pickT rfl rfl) rfl ?_
          refine wpR_v (OpV_assign rfl) rfl ?_
          refine wpR_nil ?_
          refine QE_then_n ?_
          refine wpC_ret ?_
          cases h
          exact QE_ret1 rfl rfl ⟨rfl, hS.pick [] (by decide) rfl⟩
        case false =>
          have h := if_f h hb_16
          try simp only [hb_16]
          refine wpR_gskip (b := false) (t := 55) rfl rfl rfl rfl ?_
          refine wpR_gskip (b := false) (t := 55) rfl rfl rfl rfl ?_
          refine wpR_gskip (b := false) (t := 55) rfl rfl rfl rfl ?_
          refine wpR_v (OpV_pickF rfl rfl) rfl ?_
          refine wpR_v (OpV_assign rfl) rfl ?_
          refine wpR_nil ?_
          refine QE_then_n ?_
          refine wpC_ret ?_
          cases h
          exact QE_ret1 rfl rfl ⟨rfl, hS.pick [] (by decide) rfl⟩
      case false =>
        have h := if_f h hb_15
        try simp only [hb_15]
        refine wpR_gskip (b := false) (t := 50) rfl rfl rfl rfl ?_
        refine wpR_gskip (b := false) (t := 50) rfl rfl rfl rfl ?_
        refine wpR_gskip (b := false) (t := 50) rfl rfl rfl rfl ?_
        refine wpR_v (OpV_pickF rfl rfl) rfl ?_
        refine wpR_v (OpV_move rfl) rfl ?_
        refine wpR_gskip (b := false) (t := 55) rfl rfl rfl rfl ?_
        refine wpR_gskip (b := false) (t := 55) rfl rfl rfl rfl ?_
        refine wpR_gskip (b := false) (t := 55) rfl rfl rfl rfl ?_
        refine wpR_v (OpV_pickF rfl rfl) rfl ?_
        refine wpR_v (OpV_assign rfl) rfl ?_
        refine wpR_nil ?_
        refine QE_then_n ?_
        refine wpC_ret ?_
        cases h
        exact QE_ret1 rfl rfl ⟨rfl, hS.pick [] (by decide) rfl⟩
  · intro hK_8
    refine wpC_region ?_
    refine wpR_v (OpV_move rfl) rfl ?_
    refine wpR_v (OpV_move rfl) rfl ?_
    refine wpR_v (OpV_bin rfl rfl (b_ineq _ x_1.2.1 x_4.2.1)) rfl ?_
    refine wpR_v (OpV_move rfl) rfl ?_
    cases hb_19 : (x_1.2.1 != x_4.2.1)
    case true =>
      have h := if_t h hb_19
      try simp only [hb_19]
      refine wpR_gskip (b := true) (t := 24) rfl rfl rfl rfl ?_
      refine wpR_gskip (b := true) (t := 24) rfl rfl rfl rfl ?_
      refine wpR_gskip (b := true) (t := 24) rfl rfl rfl rfl ?_
      refine wpR_v (OpV_pickT rfl rfl) rfl ?_
      refine wpR_v (OpV_move rfl) rfl ?_
      refine wpR_gskip (b := true) (t := 29) rfl rfl rfl rfl ?_
      refine wpR_gskip (b := true) (t := 29) rfl rfl rfl rfl ?_
      refine wpR_gskip (b := true) (t := 29) rfl rfl rfl rfl ?_
      refine wpR_gskip (b := true) (t := 29) rfl rfl rfl rfl ?_
      refine wpR_v (OpV_pickT rfl rfl) rfl ?_
      refine wpR_nil ?_
      refine QE_then_n ?_
      exact wpC_le _ (by exact ⟨rfl, rfl, trivial⟩) (hK_8 true _ _ ⟨rfl, (hS.pick [] (by decide) rfl)⟩ h)
    case false =>
      have h := if_f h hb_19
      try simp only [hb_19]
      refine wpR_gv (t := 24) rfl rfl (OpV_move rfl) rfl ?_
      refine wpR_gv (t := 24) rfl rfl (OpV_move rfl) rfl ?_
      refine wpR_gv (t := 24) rfl rfl (OpV_bin rfl rfl (b_ineq _ x_1.2.2 x_4.2.2)) rfl ?_
      refine wpR_v (OpV_pickF rfl rfl) rfl ?_
      refine wpR_v (OpV_move rfl) rfl ?_
      cases hb_20 : (x_1.2.2 != x_4.2.2)
      case true =>
        have h := if_t h hb_20
        try simp only [hb_20]
        refine wpR_gskip (b := true) (t := 29) rfl rfl rfl rfl ?_
        refine wpR_gskip (b := true) (t := 29) rfl rfl rfl rfl ?_
        refine wpR_gskip (b := true) (t := 29) rfl rfl rfl rfl ?_
        refine wpR_gskip (b := true) (t := 29) rfl rfl rfl rfl ?_
        refine wpR_v (OpV_pickT rfl rfl) rfl ?_
        refine wpR_nil ?_
        refine QE_then_n ?_
        exact wpC_le _ (by exact ⟨rfl, rfl, trivial⟩) (hK_8 true _ _ ⟨rfl, (hS.pick [] (by decide) rfl)⟩ h)
      case false =>
        have h := if_f h hb_20
        try simp only [hb_20]
        refine wpR_gv (t := 29) rfl rfl (OpV_move rfl) rfl ?_
        refine wpR_gv (t := 29) rfl rfl (OpV_move rfl) rfl ?_
        obtain ⟨x_21, hx_21, h⟩ := obind_some h
        refine wpR_gcall (t := 29) rfl rfl (by kernel_rfl) rfl (c_law1_same _ x_1.1 x_4.1 v_2 v_5 (hS.ro 1 rfl).rp (hS.ro 0 rfl).rp _ hx_21) rfl ?_
        rintro _ w ⟨rfl, hS1⟩
        have hS := hS.call hS1
        simp only [List.nil_append] at hS
        refine wpR_gv (t := 29) rfl rfl (OpV_un rfl (u_not x_21)) rfl ?_
        refine wpR_v (OpV_pickF rfl rfl) rfl ?_
        refine wpR_nil ?_
        refine QE_then_n ?_
        exact wpC_le _ (by exact ⟨rfl, rfl, trivial⟩) (hK_8 (!x_21) _ _ ⟨rfl, (hS.pick [] (by decide) rfl)⟩ h)

theorem c_law1_awake (w0 : World)    (r : Bool)
    (h : F.law1_awake  = some r) : Calls Try.prog 21 #[] w0 (Ret fun v w => v = vB r ∧ St [] w0 w []) := by
  refine calls_at 55 Try.func21 rfl rfl rfl ?_
  have hS := St.start w0
  refine wpC_le [] trivial ?_
  unfold F.law1_awake at h
  refine wpC_seq ?_
  refine wpC_region ?_
  refine wpR_v (OpV_assign rfl) rfl ?_
  refine wpR_nil ?_
  refine QE_then_n ?_
  refine wpC_seq ?_
  refine wpC_region ?_
  obtain ⟨x_1, hx_1, h⟩ := obind_some h
  refine wpR_call (by kernel_rfl) rfl (c_b64_Decode _ [45, 95, 56]   _ hx_1) rfl ?_
  rintro _ w ⟨v_2, rfl, hS1⟩
  have hS := hS.call hS1
  simp only [List.cons_append, List.nil_append] at hS
  refine wpR_v (OpV_move rfl) rfl ?_
  refine wpR_v (OpV_extract rfl rfl) rfl ?_
  refine wpR_v (OpV_extract rfl rfl) rfl ?_
  refine wpR_v (OpV_extract rfl rfl) rfl ?_
  refine wpR_v (OpV_assign rfl) rfl ?_
  refine wpR_v (OpV_assign rfl) rfl ?_
  refine wpR_v (OpV_assign rfl) rfl ?_
  refine wpR_nil ?_
  refine QE_then_n ?_
  refine wpC_seq ?_
  refine wpC_region ?_
  obtain ⟨x_4, hx_4, h⟩ := obind_some h
  refine wpR_call (by kernel_rfl) rfl (c_b64_DecodeStd _ [43, 47, 56, 61]   _ hx_4) rfl ?_
  rintro _ w ⟨v_5, rfl, hS1⟩
  have hS := hS.call hS1
  simp only [List.cons_append, List.nil_append] at hS
  refine wpR_v (OpV_move rfl) rfl ?_
  refine wpR_v (OpV_extract rfl rfl) rfl ?_
  refine wpR_v (OpV_extract rfl rfl) rfl ?_
  refine wpR_v (OpV_extract rfl rfl) rfl ?_
  refine wpR_v (OpV_assign rfl) rfl ?_
  refine wpR_v (OpV_assign rfl) rfl ?_
  refine wpR_v (OpV_assign rfl) rfl ?_
  refine wpR_nil ?_
  refine QE_then_n ?_
  refine wpC_seq ?_
  refine wpC_region ?_
  refine wpR_v (OpV_move rfl) rfl ?_
  refine wpR_v (OpV_bin rfl rfl (b_ieql _ x_1.2.1 0)) rfl ?_
  refine wpR_v (OpV_move rfl) rfl ?_
  cases hb_7 : (x_1.2.1 == 0)
  case true =>
    have h := if_t h hb_7
    try simp only [hb_7]
    refine wpR_gv (t := 19) rfl rfl (OpV_move rfl) rfl ?_
    refine wpR_gv (t := 19) rfl rfl (OpV_bin rfl rfl (b_ieql _ x_4.2.1 0)) rfl ?_
    refine wpR_v (OpV_pickT rfl rfl) rfl ?_
    refine wpR_v (OpV_move rfl) rfl ?_
    cases hb_8 : (x_4.2.1 == 0)
    case true =>
      have h := if_t h hb_8
      try simp only [hb_8]
      refine wpR_gv (t := 23) rfl rfl (OpV_move rfl) rfl ?_
      refine wpR_gv (t := 23) rfl rfl (OpV_len Try.underlying22 rfl (hS.ro 1 rfl)) rfl ?_
      refine wpR_gv (t := 23) rfl rfl (OpV_bin rfl rfl (b_ieql _ (x_1.1.length : Int) 2)) rfl ?_
      refine wpR_v (OpV_pickT rfl rfl) rfl ?_
      refine wpR_v (OpV_move rfl) rfl ?_
      cases hb_9 : ((x_1.1.length : Int) == 2)
      case true =>
        have h := if_t h hb_9
        try simp only [hb_9]
        refine wpR_gv (t := 28) rfl rfl (OpV_move rfl) rfl ?_
        refine wpR_gv (t := 28) rfl rfl (OpV_len Try.underlying22 rfl (hS.ro 0 rfl)) rfl ?_
        refine wpR_gv (t := 28) rfl rfl (OpV_bin rfl rfl (b_ieql _ (x_4.1.length : Int) 2)) rfl ?_
        refine wpR_v (OpV_pickT rfl rfl) rfl ?_
        refine wpR_v (OpV_move rfl) rfl ?_
        cases hb_10 : ((x_4.1.length : Int) == 2)
        case true =>
          have h := if_t h hb_10
          try simp only [hb_10]
          refine wpR_gv (t := 33) rfl rfl (OpV_move rfl) rfl ?_
          obtain ⟨x_11, hx_11, h⟩ := obind_some h
          refine wpR_gv (t := 33) rfl rfl (G_ix Try.underlying22 ti5 rfl rfl (hS.ro 1 rfl) hx_11) rfl ?_
          refine wpR_gv (t := 33) rfl rfl (G_load Try.underlying5 rfl rfl (hS.ro 1 rfl) hx_11 rfl) rfl ?_
          refine wpR_gv (t := 33) rfl rfl (OpV_bin rfl rfl (b_eql8 _ x_11 251)) rfl ?_
          refine wpR_v (OpV_pickT rfl rfl) rfl ?_
          refine wpR_v (OpV_move rfl) rfl ?_
          cases hb_12 : (x_11 == 251)
          case true =>
            have h := if_t h hb_12
            try simp only [hb_12]
            refine wpR_gv (t := 39) rfl rfl (OpV_move rfl) rfl ?_
            obtain ⟨x_13, hx_13, h⟩ := obind_some h
            refine wpR_gv (t := 39) rfl rfl (G_ix Try.underlying22 ti5 rfl rfl (hS.ro 0 rfl) hx_13) rfl ?_
            refine wpR_gv (t := 39) rfl rfl (G_load Try.underlying5 rfl rfl (hS.ro 0 rfl) hx_13 rfl) rfl ?_
            refine wpR_gv (t := 39) rfl rfl (OpV_bin rfl rfl (b_eql8 _ x_13 255)) rfl ?_
            refine wpR_v (OpV_pickT rfl rfl) rfl ?_
            refine wpR_v (OpV_move rfl) rfl ?_
            cases hb_14 : (x_13 == 255)
            case true =>
              have h := if_t h hb_14
              try simp only [hb_14]
              refine wpR_gv (t := 45) rfl rfl (OpV_move rfl) rfl ?_
              obtain ⟨x_15, hx_15, h⟩ := obind_some h
              refine wpR_gcall (t := 45) rfl rfl (by kernel_rfl) rfl (c_b64_Encode _ x_1.1 v_2 (hS.ro 1 rfl).rp _ hx_15) rfl ?_
              rintro _ w ⟨rfl, hS1⟩
              have hS := hS.call hS1
              simp only [List.nil_append] at hS
              refine wpR_gv (t := 45) rfl rfl (OpV_bin rfl rfl (b_seql _ x_15 [45, 95, 56])) rfl ?_
              refine wpR_v (OpV_pickT rfl rfl) rfl ?_
              refine wpR_v (OpV_move rfl) rfl ?_
              cases hb_16 : (x_15 == [45, 95, 56])
              case true =>
                have h := if_t h hb_16
                try simp only [hb_16]
                refine wpR_gv (t := 50) rfl rfl (OpV_move rfl) rfl ?_
                obtain ⟨x_17, hx_17, h⟩ := obind_some h
                refine wpR_gcall (t := 50) rfl rfl (by kernel_rfl) rfl (c_b64_EncodeStd _ x_1.1 v_2 (hS.ro 1 rfl).rp _ hx_17) rfl ?_
                rintro _ w ⟨rfl, hS1⟩
                have hS := hS.call hS1
                simp only [List.nil_append] at hS
                refine wpR_gv (t := 50) rfl rfl (OpV_bin rfl rfl (b_seql _ x_17 [43, 47, 56, 61])) rfl ?_
                refine wpR_v (OpV_pickT rfl rfl) rfl ?_
                refine wpR_v (OpV_assign rfl) rfl ?_
                refine wpR_nil ?_
                refine QE_then_n ?_
                refine wpC_ret ?_
                cases h
                exact QE_ret1 rfl rfl ⟨rfl, hS.pick [] (by decide) rfl⟩
              case false =>
                have h := if_f h hb_16
                try simp only [hb_16]
                refine wpR_gskip (b := false) (t := 50) rfl rfl rfl rfl ?_
                refine wpR_gskip (b := false) (t := 50) rfl rfl rfl rfl ?_
                refine wpR_gskip (b := false) (t := 50) rfl rfl rfl rfl ?_
                refine wpR_v (OpV_pickF rfl rfl) rfl ?_
                refine wpR_v (OpV_assign rfl) rfl ?_
                refine wpR_nil ?_
                refine QE_then_n ?_
                refine wpC_ret ?_
                cases h
                exact QE_ret1 rfl rfl ⟨rfl, hS.pick [] (by decide) rfl⟩
            case false =>
              have h := if_f h hb_14
              try simp only [hb_14]
              refine wpR_gskip (b := false) (t := 45) rfl rfl rfl rfl ?_
              refine wpR_gskip (b := false) (t := 45) rfl rfl rfl rfl ?_
              refine wpR_gskip (b := false) (t := 45) rfl rfl rfl rfl ?_
              refine wpR_v (OpV_pickF rfl rfl) rfl ?_
              refine wpR_v (OpV_move rfl) rfl ?_
              refine wpR_gskip (b := false) (t := 50) rfl rfl rfl rfl ?_
              refine wpR_gskip (b := false) (t := 50) rfl rfl rfl rfl ?_
              refine wpR_gskip (b := false) (t := 50) rfl rfl rfl rfl ?_
              refine wpR_v (OpV_pickF rfl rfl) rfl ?_
              refine wpR_v (OpV_assign rfl) rfl ?_
              refine wpR_nil ?_
              refine QE_then_n ?_
              refine wpC_ret ?_
              cases h
              exact QE_ret1 rfl rfl ⟨rfl, hS.pick [] (by decide) rfl⟩
          case false =>
            have h := if_f h hb_12
            try simp only [hb_12]
            refine wpR_gskip (b := false) (t := 39) rfl rfl rfl rfl ?_
            refine wpR_gskip (b := false) (t := 39) rfl rfl rfl rfl ?_
            refine wpR_gskip (b := false) (t := 39) rfl rfl rfl rfl ?_
            refine wpR_gskip (b := false) (t := 39) rfl rfl rfl rfl ?_
            refine wpR_v (OpV_pickF rfl rfl) rfl ?_
            refine wpR_v (OpV_move rfl) rfl ?_
            refine wpR_gskip (b := false) (t := 45) rfl rfl rfl rfl ?_
            refine wpR_gskip (b := false) (t := 45) rfl rfl rfl rfl ?_
            refine wpR_gskip (b := false) (t := 45) rfl rfl rfl rfl ?_
            refine wpR_v (OpV_pickF rfl rfl) rfl ?_
            refine wpR_v (OpV_move rfl) rfl ?_
            refine wpR_gskip (b := false) (t := 50) rfl rfl rfl rfl ?_
            refine wpR_gskip (b := false) (t := 50) rfl rfl rfl rfl ?_
            refine wpR_gskip (b := false) (t := 50) rfl rfl rfl rfl ?_
            refine wpR_v (OpV_pickF rfl rfl) rfl ?_
            refine wpR_v (OpV_assign rfl) rfl ?_
            refine wpR_nil ?_
            refine QE_then_n ?_
            refine wpC_ret ?_
            cases h
            exact QE_ret1 rfl rfl ⟨rfl, hS.pick [] (by decide) rfl⟩
        case false =>
          have h := if_f h hb_10
          try simp only [hb_10]
          refine wpR_gskip (b := false) (t := 33) rfl rfl rfl rfl ?_
          refine wpR_gskip (b := false) (t := 33) rfl rfl rfl rfl ?_
          refine wpR_gskip (b := false) (t := 33) rfl rfl rfl rfl ?_
          refine wpR_gskip (b := false) (t := 33) rfl rfl rfl rfl ?_
          refine wpR_v (OpV_pickF rfl rfl) rfl ?_
          refine wpR_v (OpV_move rfl) rfl ?_
          refine wpR_gskip (b := false) (t := 39) rfl rfl rfl rfl ?_
          refine wpR_gskip (b := false) (t := 39) rfl rfl rfl rfl ?_
          refine wpR_gskip (b := false) (t := 39) rfl rfl rfl rfl ?_
          refine wpR_gskip (b := false) (t := 39) rfl rfl rfl rfl ?_
          refine wpR_v (OpV_pickF rfl rfl) rfl ?_
          refine wpR_v (OpV_move rfl) rfl ?_
          refine wpR_gskip (b := false) (t := 45) rfl rfl rfl rfl ?_
          refine wpR_gskip (b := false) (t := 45) rfl rfl rfl rfl ?_
          refine wpR_gskip (b := false) (t := 45) rfl rfl rfl rfl ?_
          refine wpR_v (OpV_pickF rfl rfl) rfl ?_
          refine wpR_v (OpV_move rfl) rfl ?_
          refine wpR_gskip (b := false) (t := 50) rfl rfl rfl rfl ?_
          refine wpR_gskip (b := false) (t := 50) rfl rfl rfl rfl ?_
          refine wpR_gskip (b := false) (t := 50) rfl rfl rfl rfl ?_
          refine wpR_v (OpV_pickF rfl rfl) rfl ?_
          refine wpR_v (OpV_assign rfl) rfl ?_
          refine wpR_nil ?_
          refine QE_then_n ?_
          refine wpC_ret ?_
          cases h
          exact QE_ret1 rfl rfl ⟨rfl, hS.pick [] (by decide) rfl⟩
      case false =>
        have h := if_f h hb_9
        try simp only [hb_9]
        refine wpR_gskip (b := false) (t := 28) rfl rfl rfl rfl ?_
        refine wpR_gskip (b := false) (t := 28) rfl rfl rfl rfl ?_
        refine wpR_gskip (b := false) (t := 28) rfl rfl rfl rfl ?_
        refine wpR_v (OpV_pickF rfl rfl) rfl ?_
        refine wpR_v (OpV_move rfl) rfl ?_
        refine wpR_gskip (b := false) (t := 33) rfl rfl rfl rfl ?_
        refine wpR_gskip (b := false) (t := 33) rfl rfl rfl rfl ?_
        refine wpR_gskip (b := false) (t := 33) rfl rfl rfl rfl ?_
        refine wpR_gskip (b := false) (t := 33) rfl rfl rfl rfl ?_
        refine wpR_v (OpV_pickF rfl rfl) rfl ?_
        refine wpR_v (OpV_move rfl) rfl ?_
        refine wpR_gskip (b := false) (t := 39) rfl rfl rfl rfl ?_
        refine wpR_gskip (b := false) (t := 39) rfl rfl rfl rfl ?_
        refine wpR_gskip (b := false) (t := 39) rfl rfl rfl rfl ?_
        refine wpR_gskip (b := false) (t := 39) rfl rfl rfl rfl ?_
        refine wpR_v (OpV_pickF rfl rfl) rfl ?_
        refine wpR_v (OpV_move rfl) rfl ?_
        refine wpR_gskip (b := false) (t := 45) rfl rfl rfl rfl ?_
        refine wpR_gskip (b := false) (t := 45) rfl rfl rfl rfl ?_
        refine wpR_gskip (b := false) (t := 45) rfl rfl rfl rfl ?_
        refine wpR_v (OpV_pickF rfl rfl) rfl ?_
        refine wpR_v (OpV_move rfl) rfl ?_
        refine wpR_gskip (b := false) (t := 50) rfl rfl rfl rfl ?_
        refine wpR_gskip (b := false) (t := 50) rfl rfl rfl rfl ?_
        refine wpR_gskip (b := false) (t := 50) rfl rfl rfl rfl ?_
        refine wpR_v (OpV_pickF rfl rfl) rfl ?_
        refine wpR_v (OpV_assign rfl) rfl ?_
        refine wpR_nil ?_
        refine QE_then_n ?_
        refine wpC_ret ?_
        cases h
        exact QE_ret1 rfl rfl ⟨rfl, hS.pick [] (by decide) rfl⟩
    case false =>
      have h := if_f h hb_8
      try simp only [hb_8]
      refine wpR_gskip (b := false) (t := 23) rfl rfl rfl rfl ?_
      refine wpR_gskip (b := false) (t := 23) rfl rfl rfl rfl ?_
      refine wpR_gskip (b := false) (t := 23) rfl rfl rfl rfl ?_
      refine wpR_v (OpV_pickF rfl rfl) rfl ?_
      refine wpR_v (OpV_move rfl) rfl ?_
      refine wpR_gskip (b := false) (t := 28) rfl rfl rfl rfl ?_
      refine wpR_gskip (b := false) (t := 28) rfl rfl rfl rfl ?_
      refine wpR_gskip (b := false) (t := 28) rfl rfl rfl rfl ?_
      refine wpR_v (OpV_pickF rfl rfl) rfl ?_
      refine wpR_v (OpV_move rfl) rfl ?_
      refine wpR_gskip (b := false) (t := 33) rfl rfl rfl rfl ?_
      refine wpR_gskip (b := false) (t := 33) rfl rfl rfl rfl ?_
      refine wpR_gskip (b := false) (t := 33) rfl rfl rfl rfl ?_
      refine wpR_gskip (b := false) (t := 33) rfl rfl rfl rfl ?_
      refine wpR_v (OpV_pickF rfl rfl) rfl ?_
      refine wpR_v (OpV_move rfl) rfl ?_
      refine wpR_gskip (b := false) (t := 39) rfl rfl rfl rfl ?_
      refine wpR_gskip (b := false) (t := 39) rfl rfl rfl rfl ?_
      refine wpR_gskip (b := false) (t := 39) rfl rfl rfl rfl ?_
      refine wpR_gskip (b := false) (t := 39) rfl rfl rfl rfl ?_
      refine wpR_v (OpV_pickF rfl rfl) rfl ?_
      refine wpR_v (OpV_move rfl) rfl ?_
      refine wpR_gskip (b := false) (t := 45) rfl rfl rfl rfl ?_
      refine wpR_gskip (b := false) (t := 45) rfl rfl rfl rfl ?_
      refine wpR_gskip (b := false) (t := 45) rfl rfl rfl rfl ?_
      refine wpR_v (OpV_pickF rfl rfl) rfl ?_
      refine wpR_v (OpV_move rfl) rfl ?_
      refine wpR_gskip (b := false) (t := 50) rfl rfl rfl rfl ?_
      refine wpR_gskip (b := false) (t := 50) rfl rfl rfl rfl ?_
      refine wpR_gskip (b := false) (t := 50) rfl rfl rfl rfl ?_
      refine wpR_v (OpV_pickF rfl rfl) rfl ?_
      refine wpR_v (OpV_assign rfl) rfl ?_
      refine wpR_nil ?_
      refine QE_then_n ?_
      refine wpC_ret ?_
      cases h
      exact QE_ret1 rfl rfl ⟨rfl, hS.pick [] (by decide) rfl⟩
  case false =>
    have h := if_f h hb_7
    try simp only [hb_7]
    refine wpR_gskip (b := false) (t := 19) rfl rfl rfl rfl ?_
    refine wpR_gskip (b := false) (t := 19) rfl rfl rfl rfl ?_
    refine wpR_v (OpV_pickF rfl rfl) rfl ?_
    refine wpR_v (OpV_move rfl) rfl ?_
    refine wpR_gskip (b := false) (t := 23) rfl rfl rfl rfl ?_
    refine wpR_gskip (b := false) (t := 23) rfl rfl rfl rfl ?_
    refine wpR_gskip (b := false) (t := 23) rfl rfl rfl rfl ?_
    refine wpR_v (OpV_pickF rfl rfl) rfl ?_
    refine wpR_v (OpV_move rfl) rfl ?_
    refine wpR_gskip (b := false) (t := 28) rfl rfl rfl rfl ?_
    refine wpR_gskip (b := false) (t := 28) rfl rfl rfl rfl ?_
    refine wpR_gskip (b := false) (t := 28) rfl rfl rfl rfl ?_
    refine wpR_v (OpV_pickF rfl rfl) rfl ?_
    refine wpR_v (OpV_move rfl) rfl ?_
    refine wpR_gskip (b := false) (t := 33) rfl rfl rfl rfl ?_
    refine wpR_gskip (b := false) (t := 33) rfl rfl rfl rfl ?_
    refine wpR_gskip (b := false) (t := 33) rfl rfl rfl rfl ?_
    refine wpR_gskip (b := false) (t := 33) rfl rfl rfl rfl ?_
    refine wpR_v (OpV_pickF rfl rfl) rfl ?_
    refine wpR_v (OpV_move rfl) rfl ?_
    refine wpR_gskip (b := false) (t := 39) rfl rfl rfl rfl ?_
    refine wpR_gskip (b := false) (t := 39) rfl rfl rfl rfl ?_
    refine wpR_gskip (b := false) (t := 39) rfl rfl rfl rfl ?_
    refine wpR_gskip (b := false) (t := 39) rfl rfl rfl rfl ?_
    refine wpR_v (OpV_pickF rfl rfl) rfl ?_
    refine wpR_v (OpV_move rfl) rfl ?_
    refine wpR_gskip (b := false) (t := 45) rfl rfl rfl rfl ?_
    refine wpR_gskip (b := false) (t := 45) rfl rfl rfl rfl ?_
    refine wpR_gskip (b := false) (t := 45) rfl rfl rfl rfl ?_
    refine wpR_v (OpV_pickF rfl rfl) rfl ?_
    refine wpR_v (OpV_move rfl) rfl ?_
    refine wpR_gskip (b := false) (t := 50) rfl rfl rfl rfl ?_
    refine wpR_gskip (b := false) (t := 50) rfl rfl rfl rfl ?_
    refine wpR_gskip (b := false) (t := 50) rfl rfl rfl rfl ?_
    refine wpR_v (OpV_pickF rfl rfl) rfl ?_
    refine wpR_v (OpV_assign rfl) rfl ?_
    refine wpR_nil ?_
    refine QE_then_n ?_
    refine wpC_ret ?_
    cases h
    exact QE_ret1 rfl rfl ⟨rfl, hS.pick [] (by decide) rfl⟩

theorem c_law1_B64Back (w0 : World) (a0 : List UInt8) (va0 : Value) (ha0 : RP [] w0 e8 va0 a0) (r : Bool)
    (h : F.law1_B64Back a0 = some r) : Calls Try.prog 5 #[va0] w0 (Ret fun v w => v = vB r ∧ St [] w0 w []) := by
  refine calls_at 135 Try.func5 rfl rfl rfl ?_
  have hS := St.start w0
  refine wpC_le [(0, va0)] ⟨rfl, trivial⟩ ?_
  unfold F.law1_B64Back at h
  refine wpC_seq ?_
  refine wpC_region ?_
  refine wpR_v (OpV_assign rfl) rfl ?_
  refine wpR_nil ?_
  refine QE_then_n ?_
  refine wpC_seq ?_
  refine wpC_seq ?_
  refine wpC_region ?_
  obtain ⟨x_1, hx_1, h⟩ := obind_some h
  refine wpR_call (by kernel_rfl) rfl (c_law1_awake _    _ hx_1) rfl ?_
  rintro _ w ⟨rfl, hS1⟩
  have hS := hS.call hS1
  simp only [List.nil_append] at hS
  refine wpR_v (OpV_un rfl (u_not x_1)) rfl ?_
  refine wpR_nil ?_
  refine QE_then_n ?_
  refine wpC_cond rfl (fun hb_59 => ?_) (fun hb_59 => ?_)
  · have h := if_t h hb_59
    refine wpC_seq ?_
    refine wpC_region ?_
    refine wpR_v (OpV_assign rfl) rfl ?_
    refine wpR_nil ?_
    refine QE_then_n ?_
    refine wpC_ret ?_
    refine QE_then_r ?_
    cases h
    exact QE_ret1 rfl rfl ⟨rfl, hS⟩
  · have h := if_f h hb_59
    refine wpC_skip ?_
    refine QE_then_n ?_
    refine wpC_seq ?_
    refine wpC_region ?_
    refine wpR_v (OpV_move rfl) rfl ?_
    obtain ⟨x_2, hx_2, h⟩ := obind_some h
    refine wpR_call (by kernel_rfl) rfl (c_b64_Encode _ a0 va0 (ha0.now hS.fr).rp _ hx_2) rfl ?_
    rintro _ w ⟨rfl, hS1⟩
    have hS := hS.call hS1
    simp only [List.nil_append] at hS
    refine wpR_v (OpV_assign rfl) rfl ?_
    refine wpR_nil ?_
    refine QE_then_n ?_
    refine wpC_seq ?_
    refine wpC_region ?_
    refine wpR_v (OpV_move rfl) rfl ?_
    obtain ⟨x_3, hx_3, h⟩ := obind_some h
    refine wpR_call (by kernel_rfl) rfl (c_b64_EncodeStd _ a0 va0 (ha0.now hS.fr).rp _ hx_3) rfl ?_
    rintro _ w ⟨rfl, hS1⟩
    have hS := hS.call hS1
    simp only [List.nil_append] at hS
    refine wpR_v (OpV_assign rfl) rfl ?_
    refine wpR_nil ?_
    refine QE_then_n ?_
    refine wpC_seq ?_
    refine wpC_region ?_
    refine wpR_v (OpV_move rfl) rfl ?_
    obtain ⟨x_4, hx_4, h⟩ := obind_some h
    refine wpR_call (by kernel_rfl) rfl (c_b64_Decode _ x_2   _ hx_4) rfl ?_
    rintro _ w ⟨v_5, rfl, hS1⟩
    have hS := hS.call hS1
    simp only [List.cons_append, List.nil_append] at hS
    refine wpR_v (OpV_move rfl) rfl ?_
    refine wpR_v (OpV_extract rfl rfl) rfl ?_
    refine wpR_v (OpV_extract rfl rfl) rfl ?_
    refine wpR_v (OpV_extract rfl rfl) rfl ?_
    refine wpR_v (OpV_assign rfl) rfl ?_
    refine wpR_v (OpV_assign rfl) rfl ?_
    refine wpR_v (OpV_assign rfl) rfl ?_
    refine wpR_nil ?_
    refine QE_then_n ?_
    refine wpC_seq ?_
    refine wpC_region ?_
    refine wpR_v (OpV_move rfl) rfl ?_
    obtain ⟨x_7, hx_7, h⟩ := obind_some h
    refine wpR_call (by kernel_rfl) rfl (c_b64_DecodeStd _ x_3   _ hx_7) rfl ?_
    rintro _ w ⟨v_8, rfl, hS1⟩
    have hS := hS.call hS1
    simp only [List.cons_append, List.nil_append] at hS
    refine wpR_v (OpV_move rfl) rfl ?_
    refine wpR_v (OpV_extract rfl rfl) rfl ?_
    refine wpR_v (OpV_extract rfl rfl) rfl ?_
    refine wpR_v (OpV_extract rfl rfl) rfl ?_
    refine wpR_v (OpV_assign rfl) rfl ?_
    refine wpR_v (OpV_assign rfl) rfl ?_
    refine wpR_v (OpV_assign rfl) rfl ?_
    refine wpR_nil ?_
    refine QE_then_n ?_
    refine wpC_seq ?_
    refine seq_join (r := r) (fun (g : Bool) L w => L = [(3, vS x_2), (4, vS x_3), (73, vB g)] ∧ St [] w0 w []) (F.law1_B64Back_K1 x_2 x_3) ?_ ?_
    · rintro x_10 L w hJ h
      try dsimp only at hJ
      obtain ⟨rfl, hS⟩ := hJ
      unfold F.law1_B64Back_K1 at h
      refine wpC_cond rfl (fun hb_50 => ?_) (fun hb_50 => ?_)
      · have h := if_t h hb_50
        refine wpC_seq ?_
        refine wpC_region ?_
        refine wpR_v (OpV_assign rfl) rfl ?_
        refine wpR_nil ?_
        refine QE_then_n ?_
        refine wpC_ret ?_
        refine QE_then_r ?_
        cases h
        exact QE_ret1 rfl rfl ⟨rfl, hS⟩
      · have h := if_f h hb_50
        refine wpC_skip ?_
        refine QE_then_n ?_
        refine wpC_seq ?_
        refine wpC_seq ?_
        refine wpC_region ?_
        refine wpR_v (OpV_assign rfl) rfl ?_
        refine wpR_nil ?_
        refine QE_then_n ?_
        refine wpC_block ?_
        refine wpC_le [(3, vS x_2), (4, vS x_3), (11, vI 0)] ⟨rfl, rfl, rfl, trivial⟩ ?_
        refine loop_ind (F.law1_B64Back_L1 x_2 x_3) (fun (s : Int) L w => L = [(3, vS x_2), (4, vS x_3), (11, vI s)] ∧ St [] w0 w []) ?_ 0 ⟨rfl, hS⟩ h
        rintro k_49 x_12 L w q_15 hI ih_14 h hk_13
        try dsimp only at hI
        obtain ⟨rfl, hS⟩ := hI
        unfold F.law1_B64Back_L1 at h
        refine wpC_seq ?_
        refine wpC_seq ?_
        refine wpC_region ?_
        refine wpR_v (OpV_move rfl) rfl ?_
        refine wpR_v (OpV_move rfl) rfl ?_
        refine wpR_v (OpV_lenS Try.underlying9 rfl) rfl ?_
        refine wpR_v (OpV_bin rfl rfl (b_ilss _ x_12 (x_2.length : Int))) rfl ?_
        refine wpR_nil ?_
        refine QE_then_n ?_
        refine wpC_cond rfl (fun hb_48 => ?_) (fun hb_48 => ?_)
        · have h := if_t h hb_48
          refine wpC_skip ?_
          refine QE_then_n ?_
          refine wpC_seq ?_
          refine wpC_block ?_
          refine wpC_seq ?_
          refine wpC_region ?_
          refine wpR_v (OpV_move rfl) rfl ?_
          refine wpR_v (OpV_move rfl) rfl ?_
          obtain ⟨x_16, hx_16, h⟩ := obind_some h
          refine wpR_v (G_ixS Try.underlying9 rfl rfl hx_16) rfl ?_
          refine wpR_v (OpV_assign rfl) rfl ?_
          refine wpR_nil ?_
          refine QE_then_n ?_
          refine wpC_seq ?_
          refine wpC_region ?_
          refine wpR_v (OpV_move rfl) rfl ?_
          refine wpR_v (OpV_move rfl) rfl ?_
          obtain ⟨x_17, hx_17, h⟩ := obind_some h
          refine wpR_v (G_ixS Try.underlying9 rfl rfl hx_17) rfl ?_
          refine wpR_v (OpV_assign rfl) rfl ?_
          refine wpR_nil ?_
          refine QE_then_n ?_
          refine seq_join (r := q_15) (fun (g : Bool) L w => L = [(3, vS x_2), (4, vS x_3), (11, vI x_12), (122, vB g)] ∧ St [] w0 w []) (F.law1_B64Back_K2 x_12) ?_ ?_
          · rintro x_18 L w hJ h
            try dsimp only at hJ
            obtain ⟨rfl, hS⟩ := hJ
            unfold F.law1_B64Back_K2 at h
            refine wpC_cond rfl (fun hb_20 => ?_) (fun hb_20 => ?_)
            · have h := if_t h hb_20
              refine wpC_seq ?_
              refine wpC_region ?_
              refine wpR_v (OpV_assign rfl) rfl ?_
              refine wpR_nil ?_
              refine QE_then_n ?_
              refine wpC_ret ?_
              refine QE_blk_r ?_
              refine QE_then_r ?_
              refine QE_then_r ?_
              have h := oinr_some h hk_13
              refine QE_blk_r ?_
              refine QE_then_r ?_
              cases h
              exact QE_ret1 rfl rfl ⟨rfl, hS⟩
            · have h := if_f h hb_20
              refine wpC_skip ?_
              refine QE_blk_n ?_
              refine QE_then_n ?_
              refine wpC_region ?_
              refine wpR_v (OpV_move rfl) rfl ?_
              refine wpR_v (OpV_bin rfl rfl (b_iadd _ x_12 1)) rfl ?_
              refine wpR_v (OpV_assign rfl) rfl ?_
              refine wpR_nil ?_
              exact QE_rnd (wpN_le _ (by exact ⟨rfl, rfl, rfl, trivial⟩) (ih_14 (wI (x_12 + 1)) _ _ ⟨rfl, hS⟩ (oinl_some h hk_13)))
          · intro hK_19
            refine wpC_region ?_
            refine wpR_v (OpV_move rfl) rfl ?_
            refine wpR_v (OpV_move rfl) rfl ?_
            refine wpR_v (OpV_bin rfl rfl (b_neq8 _ x_16 x_17)) rfl ?_
            refine wpR_v (OpV_move rfl) rfl ?_
            cases hb_21 : (x_16 != x_17)
            case true =>
              have h := if_t h hb_21
              try simp only [hb_21]
              refine wpR_gv (t := 89) rfl rfl (OpV_move rfl) rfl ?_
              refine wpR_gv (t := 89) rfl rfl (OpV_bin rfl rfl (b_eql8 _ x_16 45)) rfl ?_
              refine wpR_gv (t := 89) rfl rfl (OpV_move rfl) rfl ?_
              cases hb_22 : (x_16 == 45)
              case true =>
                have h := if_t h hb_22
                try simp only [hb_22]
                refine wpR_gv (t := 92) rfl rfl (OpV_move rfl) rfl ?_
                refine wpR_gv (t := 92) rfl rfl (OpV_bin rfl rfl (b_eql8 _ x_17 43)) rfl ?_
                refine wpR_gv (t := 89) rfl rfl (OpV_pickT rfl rfl) rfl ?_
                refine wpR_gv (t := 89) rfl rfl (OpV_un rfl (u_not (x_17 == 43))) rfl ?_
                refine wpR_v (OpV_pickT rfl rfl) rfl ?_
                refine wpR_v (OpV_move rfl) rfl ?_
                cases hb_23 : (!(x_17 == 43))
                case true =>
                  have h := if_t h hb_23
                  try simp only [hb_23]
                  refine wpR_gv (t := 98) rfl rfl (OpV_move rfl) rfl ?_
                  refine wpR_gv (t := 98) rfl rfl (OpV_bin rfl rfl (b_eql8 _ x_16 95)) rfl ?_
                  refine wpR_gv (t := 98) rfl rfl (OpV_move rfl) rfl ?_
                  cases hb_24 : (x_16 == 95)
                  case true =>
                    have h := if_t h hb_24
                    try simp only [hb_24]
                    refine wpR_gv (t := 101) rfl rfl (OpV_move rfl) rfl ?_
                    refine wpR_gv (t := 101) rfl rfl (OpV_bin rfl rfl (b_eql8 _ x_17 47)) rfl ?_
                    refine wpR_gv (t := 98) rfl rfl (OpV_pickT rfl rfl) rfl ?_
                    refine wpR_gv (t := 98) rfl rfl (OpV_un rfl (u_not (x_17 == 47))) rfl ?_
                    refine wpR_v (OpV_pickT rfl rfl) rfl ?_
                    refine wpR_v (OpV_move rfl) rfl ?_
                    cases hb_25 : (!(x_17 == 47))
                    case true =>
                      have h := if_t h hb_25
                      try simp only [hb_25]
                      refine wpR_gskip (b := true) (t := 107) rfl rfl rfl rfl ?_
                      refine wpR_gskip (b := true) (t := 107) rfl rfl rfl rfl ?_
                      refine wpR_v (OpV_pickT rfl rfl) rfl ?_
                      refine wpR_v (OpV_move rfl) rfl ?_
                      refine wpR_gskip (b := true) (t := 111) rfl rfl rfl rfl ?_
                      refine wpR_gskip (b := true) (t := 111) rfl rfl rfl rfl ?_
                      refine wpR_v (OpV_pickT rfl rfl) rfl ?_
                      refine wpR_v (OpV_move rfl) rfl ?_
                      refine wpR_gskip (b := true) (t := 115) rfl rfl rfl rfl ?_
                      refine wpR_gskip (b := true) (t := 115) rfl rfl rfl rfl ?_
                      refine wpR_v (OpV_pickT rfl rfl) rfl ?_
                      refine wpR_v (OpV_move rfl) rfl ?_
                      refine wpR_gskip (b := true) (t := 119) rfl rfl rfl rfl ?_
                      refine wpR_gskip (b := true) (t := 119) rfl rfl rfl rfl ?_
                      refine wpR_v (OpV_pickT rfl rfl) rfl ?_
                      refine wpR_nil ?_
                      refine QE_then_n ?_
                      exact wpC_le _ (by exact ⟨rfl, rfl, rfl, rfl, trivial⟩) (hK_19 true _ _ ⟨rfl, hS⟩ h)
                    case false =>
                      have h := if_f h hb_25
                      try simp only [hb_25]
                      refine wpR_gv (t := 107) rfl rfl (OpV_move rfl) rfl ?_
                      refine wpR_gv (t := 107) rfl rfl (OpV_bin rfl rfl (b_eql8 _ x_16 43)) rfl ?_
                      refine wpR_v (OpV_pickF rfl rfl) rfl ?_
                      refine wpR_v (OpV_move rfl) rfl ?_
                      cases hb_26 : (x_16 == 43)
                      case true =>
                        have h := if_t h hb_26
                        try simp only [hb_26]
                        refine wpR_gskip (b := true) (t := 111) rfl rfl rfl rfl ?_
                        refine wpR_gskip (b := true) (t := 111) rfl rfl rfl rfl ?_
                        refine wpR_v (OpV_pickT rfl rfl) rfl ?_
                        refine wpR_v (OpV_move rfl) rfl ?_
                        refine wpR_gskip (b := true) (t := 115) rfl rfl rfl rfl ?_
                        refine wpR_gskip (b := true) (t := 115) rfl rfl rfl rfl ?_
                        refine wpR_v (OpV_pickT rfl rfl) rfl ?_
                        refine wpR_v (OpV_move rfl) rfl ?_
                        refine wpR_gskip (b := true) (t := 119) rfl rfl rfl rfl ?_
                        refine wpR_gskip (b := true) (t := 119) rfl rfl rfl rfl ?_
                        refine wpR_v (OpV_pickT rfl rfl) rfl ?_
                        refine wpR_nil ?_
                        refine QE_then_n ?_
                        exact wpC_le _ (by exact ⟨rfl, rfl, rfl, rfl, trivial⟩) (hK_19 true _ _ ⟨rfl, hS⟩ h)
                      case false =>
                        have h := if_f h hb_26
                        try simp only [hb_26]
                        refine wpR_gv (t := 111) rfl rfl (OpV_move rfl) rfl ?_
                        refine wpR_gv (t := 111) rfl rfl (OpV_bin rfl rfl (b_eql8 _ x_16 47)) rfl ?_
                        refine wpR_v (OpV_pickF rfl rfl) rfl ?_
                        refine wpR_v (OpV_move rfl) rfl ?_
                        cases hb_27 : (x_16 == 47)
                        case true =>
                          have h := if_t h hb_27
                          try simp only [hb_27]
                          refine wpR_gskip (b := true) (t := 115) rfl rfl rfl rfl ?_
                          refine wpR_gskip (b := true) (t := 115) rfl rfl rfl rfl ?_
                          refine wpR_v (OpV_pickT rfl rfl) rfl ?_
                          refine wpR_v (OpV_move rfl) rfl ?_
                          refine wpR_gskip (b := true) (t := 119) rfl rfl rfl rfl ?_
                          refine wpR_gskip (b := true) (t := 119) rfl rfl rfl rfl ?_
                          refine wpR_v (OpV_pickT rfl rfl) rfl ?_
                          refine wpR_nil ?_
                          refine QE_then_n ?_
                          exact wpC_le _ (by exact ⟨rfl, rfl, rfl, rfl, trivial⟩) (hK_19 true _ _ ⟨rfl, hS⟩ h)
                        case false =>
                          have h := if_f h hb_27
                          try simp only [hb_27]
                          refine wpR_gv (t := 115) rfl rfl (OpV_move rfl) rfl ?_
                          refine wpR_gv (t := 115) rfl rfl (OpV_bin rfl rfl (b_eql8 _ x_17 45)) rfl ?_
                          refine wpR_v (OpV_pickF rfl rfl) rfl ?_
                          refine wpR_v (OpV_move rfl) rfl ?_
                          cases hb_28 : (x_17 == 45)
                          case true =>
                            have h := if_t h hb_28
                            try simp only [hb_28]
                            refine wpR_gskip (b := true) (t := 119) rfl rfl rfl rfl ?_
                            refine wpR_gskip (b := true) (t := 119) rfl rfl rfl rfl ?_
                            refine wpR_v (OpV_pickT rfl rfl) rfl ?_
                            refine wpR_nil ?_
                            refine QE_then_n ?_
                            exact wpC_le _ (by exact ⟨rfl, rfl, rfl, rfl, trivial⟩) (hK_19 true _ _ ⟨rfl, hS⟩ h)
                          case false =>
                            have h := if_f h hb_28
                            try simp only [hb_28]
                            refine wpR_gv (t := 119) rfl rfl (OpV_move rfl) rfl ?_
                            refine wpR_gv (t := 119) rfl rfl (OpV_bin rfl rfl (b_eql8 _ x_17 95)) rfl ?_
                            refine wpR_v (OpV_pickF rfl rfl) rfl ?_
                            refine wpR_nil ?_
                            refine QE_then_n ?_
                            exact wpC_le _ (by exact ⟨rfl, rfl, rfl, rfl, trivial⟩) (hK_19 (x_17 == 95) _ _ ⟨rfl, hS⟩ h)
                  case false =>
                    have h := if_f h hb_24
                    try simp only [hb_24]
                    refine wpR_gskip (b := false) (t := 101) rfl rfl rfl rfl ?_
                    refine wpR_gskip (b := false) (t := 101) rfl rfl rfl rfl ?_
                    refine wpR_gv (t := 98) rfl rfl (OpV_pickF rfl rfl) rfl ?_
                    refine wpR_gv (t := 98) rfl rfl (OpV_un rfl (u_not false)) rfl ?_
                    refine wpR_v (OpV_pickT rfl rfl) rfl ?_
                    refine wpR_v (OpV_move rfl) rfl ?_
                    refine wpR_gskip (b := true) (t := 107) rfl rfl rfl rfl ?_
                    refine wpR_gskip (b := true) (t := 107) rfl rfl rfl rfl ?_
                    refine wpR_v (OpV_pickT rfl rfl) rfl ?_
                    refine wpR_v (OpV_move rfl) rfl ?_
                    refine wpR_gskip (b := true) (t := 111) rfl rfl rfl rfl ?_
                    refine wpR_gskip (b := true) (t := 111) rfl rfl rfl rfl ?_
                    refine wpR_v (OpV_pickT rfl rfl) rfl ?_
                    refine wpR_v (OpV_move rfl) rfl ?_
                    refine wpR_gskip (b := true) (t := 115) rfl rfl rfl rfl ?_
                    refine wpR_gskip (b := true) (t := 115) rfl rfl rfl rfl ?_
                    refine wpR_v (OpV_pickT rfl rfl) rfl ?_
                    refine wpR_v (OpV_move rfl) rfl ?_
                    refine wpR_gskip (b := true) (t := 119) rfl rfl rfl rfl ?_
                    refine wpR_gskip (b := true) (t := 119) rfl rfl rfl rfl ?_
                    refine wpR_v (OpV_pickT rfl rfl) rfl ?_
                    refine wpR_nil ?_
                    refine QE_then_n ?_
                    exact wpC_le _ (by exact ⟨rfl, rfl, rfl, rfl, trivial⟩) (hK_19 true _ _ ⟨rfl, hS⟩ h)
                case false =>
                  have h := if_f h hb_23
                  try simp only [hb_23]
                  refine wpR_gskip (b := false) (t := 98) rfl rfl rfl rfl ?_
                  refine wpR_gskip (b := false) (t := 98) rfl rfl rfl rfl ?_
                  refine wpR_gskip (b := false) (t := 98) rfl rfl rfl rfl ?_
                  refine wpR_gskipU (t := 101) rfl rfl rfl ?_
                  refine wpR_gskipU (t := 101) rfl rfl rfl ?_
                  refine wpR_gskip (b := false) (t := 98) rfl rfl rfl rfl ?_
                  refine wpR_gskip (b := false) (t := 98) rfl rfl rfl rfl ?_
                  refine wpR_v (OpV_pickF rfl rfl) rfl ?_
                  refine wpR_v (OpV_move rfl) rfl ?_
                  refine wpR_gv (t := 107) rfl rfl (OpV_move rfl) rfl ?_
                  refine wpR_gv (t := 107) rfl rfl (OpV_bin rfl rfl (b_eql8 _ x_16 43)) rfl ?_
                  refine wpR_v (OpV_pickF rfl rfl) rfl ?_
                  refine wpR_v (OpV_move rfl) rfl ?_
                  cases hb_29 : (x_16 == 43)
                  case true =>
                    have h := if_t h hb_29
                    try simp only [hb_29]
                    refine wpR_gskip (b := true) (t := 111) rfl rfl rfl rfl ?_
                    refine wpR_gskip (b := true) (t := 111) rfl rfl rfl rfl ?_
                    refine wpR_v (OpV_pickT rfl rfl) rfl ?_
                    refine wpR_v (OpV_move rfl) rfl ?_
                    refine wpR_gskip (b := true) (t := 115) rfl rfl rfl rfl ?_
                    refine wpR_gskip (b := true) (t := 115) rfl rfl rfl rfl ?_
                    refine wpR_v (OpV_pickT rfl rfl) rfl ?_
                    refine wpR_v (OpV_move rfl) rfl ?_
                    refine wpR_gskip (b := true) (t := 119) rfl rfl rfl rfl ?_
                    refine wpR_gskip (b := true) (t := 119) rfl rfl rfl rfl ?_
                    refine wpR_v (OpV_pickT rfl rfl) rfl ?_
                    refine wpR_nil ?_
                    refine QE_then_n ?_
                    exact wpC_le _ (by exact ⟨rfl, rfl, rfl, rfl, trivial⟩) (hK_19 true _ _ ⟨rfl, hS⟩ h)
                  case false =>
                    have h := if_f h hb_29
                    try simp only [hb_29]
                    refine wpR_gv (t := 111) rfl rfl (OpV_move rfl) rfl ?_
                    refine wpR_gv (t := 111) rfl rfl (OpV_bin rfl rfl (b_eql8 _ x_16 47)) rfl ?_
                    refine wpR_v (OpV_pickF rfl rfl) rfl ?_
                    refine wpR_v (OpV_move rfl) rfl ?_
                    cases hb_30 : (x_16 == 47)
                    case true =>
                      have h := if_t h hb_30
                      try simp only [hb_30]
                      refine wpR_gskip (b := true) (t := 115) rfl rfl rfl rfl ?_
                      refine wpR_gskip (b := true) (t := 115) rfl rfl rfl rfl ?_
                      refine wpR_v (OpV_pickT rfl rfl) rfl ?_
                      refine wpR_v (OpV_move rfl) rfl ?_
                      refine wpR_gskip (b := true) (t := 119) rfl rfl rfl rfl ?_
                      refine wpR_gskip (b := true) (t := 119) rfl rfl rfl rfl ?_
                      refine wpR_v (OpV_pickT rfl rfl) rfl ?_
                      refine wpR_nil ?_
                      refine QE_then_n ?_
                      exact wpC_le _ (by exact ⟨rfl, rfl, rfl, rfl, trivial⟩) (hK_19 true _ _ ⟨rfl, hS⟩ h)
                    case false =>
                      have h := if_f h hb_30
                      try simp only [hb_30]
                      refine wpR_gv (t := 115) rfl rfl (OpV_move rfl) rfl ?_
                      refine wpR_gv (t := 115) rfl rfl (OpV_bin rfl rfl (b_eql8 _ x_17 45)) rfl ?_
                      refine wpR_v (OpV_pickF rfl rfl) rfl ?_
                      refine wpR_v (OpV_move rfl) rfl ?_
                      cases hb_31 : (x_17 == 45)
                      case true =>
                        have h := if_t h hb_31
                        try simp only [hb_31]
                        refine wpR_gskip (b := true) (t := 119) rfl rfl rfl rfl ?_
                        refine wpR_gskip (b := true) (t := 119) rfl rfl rfl rfl ?_
                        refine wpR_v (OpV_pickT rfl rfl) rfl ?_
                        refine wpR_nil ?_
                        refine QE_then_n ?_
                        exact wpC_le _ (by exact ⟨rfl, rfl, rfl, rfl, trivial⟩) (hK_19 true _ _ ⟨rfl, hS⟩ h)
                      case false =>
                        have h := if_f h hb_31
                        try simp only [hb_31]
                        refine wpR_gv (t := 119) rfl rfl (OpV_move rfl) rfl ?_
                        refine wpR_gv (t := 119) rfl rfl (OpV_bin rfl rfl (b_eql8 _ x_17 95)) rfl ?_
                        refine wpR_v (OpV_pickF rfl rfl) rfl ?_
                        refine wpR_nil ?_
                        refine QE_then_n ?_
                        exact wpC_le _ (by exact ⟨rfl, rfl, rfl, rfl, trivial⟩) (hK_19 (x_17 == 95) _ _ ⟨rfl, hS⟩ h)
              case false =>
                have h := if_f h hb_22
                try simp only [hb_22]
                refine wpR_gskip (b := false) (t := 92) rfl rfl rfl rfl ?_
                refine wpR_gskip (b := false) (t := 92) rfl rfl rfl rfl ?_
                refine wpR_gv (t := 89) rfl rfl (OpV_pickF rfl rfl) rfl ?_
                refine wpR_gv (t := 89) rfl rfl (OpV_un rfl (u_not false)) rfl ?_
                refine wpR_v (OpV_pickT rfl rfl) rfl ?_
                refine wpR_v (OpV_move rfl) rfl ?_
                refine wpR_gv (t := 98) rfl rfl (OpV_move rfl) rfl ?_
                refine wpR_gv (t := 98) rfl rfl (OpV_bin rfl rfl (b_eql8 _ x_16 95)) rfl ?_
                refine wpR_gv (t := 98) rfl rfl (OpV_move rfl) rfl ?_
                cases hb_32 : (x_16 == 95)
                case true =>
                  have h := if_t h hb_32
                  try simp only [hb_32]
                  refine wpR_gv (t := 101) rfl rfl (OpV_move rfl) rfl ?_
                  refine wpR_gv (t := 101) rfl rfl (OpV_bin rfl rfl (b_eql8 _ x_17 47)) rfl ?_
                  refine wpR_gv (t := 98) rfl rfl (OpV_pickT rfl rfl) rfl ?_
                  refine wpR_gv (t := 98) rfl rfl (OpV_un rfl (u_not (x_17 == 47))) rfl ?_
                  refine wpR_v (OpV_pickT rfl rfl) rfl ?_
                  refine wpR_v (OpV_move rfl) rfl ?_
                  cases hb_33 : (!(x_17 == 47))
                  case true =>
                    have h := if_t h hb_33
                    try simp only [hb_33]
                    refine wpR_gskip (b := true) (t := 107) rfl rfl rfl rfl ?_
                    refine wpR_gskip (b := true) (t := 107) rfl rfl rfl rfl ?_
                    refine wpR_v (OpV_pickT rfl rfl) rfl ?_
                    refine wpR_v (OpV_move rfl) rfl ?_
                    refine wpR_gskip (b := true) (t := 111) rfl rfl rfl rfl ?_
                    refine wpR_gskip (b := true) (t := 111) rfl rfl rfl rfl ?_
                    refine wpR_v (OpV_pickT rfl rfl) rfl ?_
                    refine wpR_v (OpV_move rfl) rfl ?_
                    refine wpR_gskip (b := true) (t := 115) rfl rfl rfl rfl ?_
                    refine wpR_gskip (b := true) (t := 115) rfl rfl rfl rfl ?_
                    refine wpR_v (OpV_pickT rfl rfl) rfl ?_
                    refine wpR_v (OpV_move rfl) rfl ?_
                    refine wpR_gskip (b := true) (t := 119) rfl rfl rfl rfl ?_
                    refine wpR_gskip (b := true) (t := 119) rfl rfl rfl rfl ?_
                    refine wpR_v (OpV_pickT rfl rfl) rfl ?_
                    refine wpR_nil ?_
                    refine QE_then_n ?_
                    exact wpC_le _ (by exact ⟨rfl, rfl, rfl, rfl, trivial⟩) (hK_19 true _ _ ⟨rfl, hS⟩ h)
                  case false =>
                    have h := if_f h hb_33
                    try simp only [hb_33]
                    refine wpR_gv (t := 107) rfl rfl (OpV_move rfl) rfl ?_
                    refine wpR_gv (t := 107) rfl rfl (OpV_bin rfl rfl (b_eql8 _ x_16 43)) rfl ?_
                    refine wpR_v (OpV_pickF rfl rfl) rfl ?_
                    refine wpR_v (OpV_move rfl) rfl ?_
                    cases hb_34 : (x_16 == 43)
                    case true =>
                      have h := if_t h hb_34
                      try simp only [hb_34]
                      refine wpR_gskip (b := true) (t := 111) rfl rfl rfl rfl ?_
                      refine wpR_gskip (b := true) (t := 111) rfl rfl rfl rfl ?_
                      refine wpR_v (OpV_pickT rfl rfl) rfl ?_
                      refine wpR_v (OpV_move rfl) rfl ?_
                      refine wpR_gskip (b := true) (t := 115) rfl rfl rfl rfl ?_
                      refine wpR_gskip (b := true) (t := 115) rfl rfl rfl rfl ?_
                      refine wpR_v (OpV_pickT rfl rfl) rfl ?_
                      refine wpR_v (OpV_move rfl) rfl ?_
                      refine wpR_gskip (b := true) (t := 119) rfl rfl rfl rfl ?_
                      refine wpR_gskip (b := true) (t := 119) rfl rfl rfl rfl ?_
                      refine wpR_v (OpV_pickT rfl rfl) rfl ?_
                      refine wpR_nil ?_
                      refine QE_then_n ?_
                      exact wpC_le _ (by exact ⟨rfl, rfl, rfl, rfl, trivial⟩) (hK_19 true _ _ ⟨rfl, hS⟩ h)
                    case false =>
                      have h := if_f h hb_34
                      try simp only [hb_34]
                      refine wpR_gv (t := 111) rfl rfl (OpV_move rfl) rfl ?_
                      refine wpR_gv (t := 111) rfl rfl (OpV_bin rfl rfl (b_eql8 _ x_16 47)) rfl ?_
                      refine wpR_v (OpV_pickF rfl rfl) rfl ?_
                      refine wpR_v (OpV_move rfl) rfl ?_
                      cases hb_35 : (x_16 == 47)
                      case true =>
                        have h := if_t h hb_35
                        try simp only [hb_35]
                        refine wpR_gskip (b := true) (t := 115) rfl rfl rfl rfl ?_
                        refine wpR_gskip (b := true) (t := 115) rfl rfl rfl rfl ?_
                        refine wpR_v (OpV_pickT rfl rfl) rfl ?_
                        refine wpR_v (OpV_move rfl) rfl ?_
                        refine wpR_gskip (b := true) (t := 119) rfl rfl rfl rfl ?_
                        refine wpR_gskip (b := true) (t := 119) rfl rfl rfl rfl ?_
                        refine wpR_v (OpV_pickT rfl rfl) rfl ?_
                        refine wpR_nil ?_
                        refine QE_then_n ?_
                        exact wpC_le _ (by exact ⟨rfl, rfl, rfl, rfl, trivial⟩) (hK_19 true _ _ ⟨rfl, hS⟩ h)
                      case false =>
                        have h := if_f h hb_35
                        try simp only [hb_35]
                        refine wpR_gv (t := 115) rfl rfl (OpV_move rfl) rfl ?_
                        refine wpR_gv (t := 115) rfl rfl (OpV_bin rfl rfl (b_eql8 _ x_17 45)) rfl ?_
                        refine wpR_v (OpV_pickF rfl rfl) rfl ?_
                        refine wpR_v (OpV_move rfl) rfl ?_
                        cases hb_36 : (x_17 == 45)
                        case true =>
                          have h := if_t h hb_36
                          try simp only [hb_36]
                          refine wpR_gskip (b := true) (t := 119) rfl rfl rfl rfl ?_
                          refine wpR_gskip (b := true) (t := 119) rfl rfl rfl rfl ?_
                          refine wpR_v (OpV_pickT rfl rfl) rfl ?_
                          refine wpR_nil ?_
                          refine QE_then_n ?_
                          exact wpC_le _ (by exact ⟨rfl, rfl, rfl, rfl, trivial⟩) (hK_19 true _ _ ⟨rfl, hS⟩ h)
                        case false =>
                          have h := if_f h hb_36
                          try simp only [hb_36]
                          refine wpR_gv (t := 119) rfl rfl (OpV_move rfl) rfl ?_
                          refine wpR_gv (t := 119) rfl rfl (OpV_bin rfl rfl (b_eql8 _ x_17 95)) rfl ?_
                          refine wpR_v (OpV_pickF rfl rfl) rfl ?_
                          refine wpR_nil ?_
                          refine QE_then_n ?_
                          exact wpC_le _ (by exact ⟨rfl, rfl, rfl, rfl, trivial⟩) (hK_19 (x_17 == 95) _ _ ⟨rfl, hS⟩ h)
                case false =>
                  have h := if_f h hb_32
                  try simp only [hb_32]
                  refine wpR_gskip (b := false) (t := 101) rfl rfl rfl rfl ?_
                  refine wpR_gskip (b := false) (t := 101) rfl rfl rfl rfl ?_
                  refine wpR_gv (t := 98) rfl rfl (OpV_pickF rfl rfl) rfl ?_
                  refine wpR_gv (t := 98) rfl rfl (OpV_un rfl (u_not false)) rfl ?_
                  refine wpR_v (OpV_pickT rfl rfl) rfl ?_
                  refine wpR_v (OpV_move rfl) rfl ?_
                  refine wpR_gskip (b := true) (t := 107) rfl rfl rfl rfl ?_
                  refine wpR_gskip (b := true) (t := 107) rfl rfl rfl rfl ?_
                  refine wpR_v (OpV_pickT rfl rfl) rfl ?_
                  refine wpR_v (OpV_move rfl) rfl ?_
                  refine wpR_gskip (b := true) (t := 111) rfl rfl rfl rfl ?_
                  refine wpR_gskip (b := true) (t := 111) rfl rfl rfl rfl ?_
                  refine wpR_v (OpV_pickT rfl rfl) rfl ?_
                  refine wpR_v (OpV_move rfl) rfl ?_
                  refine wpR_gskip (b := true) (t := 115) rfl rfl rfl rfl ?_
                  refine wpR_gskip (b := true) (t := 115) rfl rfl rfl rfl ?_
                  refine wpR_v (OpV_pickT rfl rfl) rfl ?_
                  refine wpR_v (OpV_move rfl) rfl ?_
                  refine wpR_gskip (b := true) (t := 119) rfl rfl rfl rfl ?_
                  refine wpR_gskip (b := true) (t := 119) rfl rfl rfl rfl ?_
                  refine wpR_v (OpV_pickT rfl rfl) rfl ?_
                  refine wpR_nil ?_
                  refine QE_then_n ?_
                  exact wpC_le _ (by exact ⟨rfl, rfl, rfl, rfl, trivial⟩) (hK_19 true _ _ ⟨rfl, hS⟩ h)
            case false =>
              have h := if_f h hb_21
              try simp only [hb_21]
              refine wpR_gskip (b := false) (t := 89) rfl rfl rfl rfl ?_
              refine wpR_gskip (b := false) (t := 89) rfl rfl rfl rfl ?_
              refine wpR_gskip (b := false) (t := 89) rfl rfl rfl rfl ?_
              refine wpR_gskipU (t := 92) rfl rfl rfl ?_
              refine wpR_gskipU (t := 92) rfl rfl rfl ?_
              refine wpR_gskip (b := false) (t := 89) rfl rfl rfl rfl ?_
              refine wpR_gskip (b := false) (t := 89) rfl rfl rfl rfl ?_
              refine wpR_v (OpV_pickF rfl rfl) rfl ?_
              refine wpR_v (OpV_move rfl) rfl ?_
              refine wpR_gskip (b := false) (t := 98) rfl rfl rfl rfl ?_
              refine wpR_gskip (b := false) (t := 98) rfl rfl rfl rfl ?_
              refine wpR_gskip (b := false) (t := 98) rfl rfl rfl rfl ?_
              refine wpR_gskipU (t := 101) rfl rfl rfl ?_
              refine wpR_gskipU (t := 101) rfl rfl rfl ?_
              refine wpR_gskip (b := false) (t := 98) rfl rfl rfl rfl ?_
              refine wpR_gskip (b := false) (t := 98) rfl rfl rfl rfl ?_
              refine wpR_v (OpV_pickF rfl rfl) rfl ?_
              refine wpR_v (OpV_move rfl) rfl ?_
              refine wpR_gv (t := 107) rfl rfl (OpV_move rfl) rfl ?_
              refine wpR_gv (t := 107) rfl rfl (OpV_bin rfl rfl (b_eql8 _ x_16 43)) rfl ?_
              refine wpR_v (OpV_pickF rfl rfl) rfl ?_
              refine wpR_v (OpV_move rfl) rfl ?_
              cases hb_37 : (x_16 == 43)
              case true =>
                have h := if_t h hb_37
                try simp only [hb_37]
                refine wpR_gskip (b := true) (t := 111) rfl rfl rfl rfl ?_
                refine wpR_gskip (b := true) (t := 111) rfl rfl rfl rfl ?_
                refine wpR_v (OpV_pickT rfl rfl) rfl ?_
                refine wpR_v (OpV_move rfl) rfl ?_
                refine wpR_gskip (b := true) (t := 115) rfl rfl rfl rfl ?_
                refine wpR_gskip (b := true) (t := 115) rfl rfl rfl rfl ?_
                refine wpR_v (OpV_pickT rfl rfl) rfl ?_
                refine wpR_v (OpV_move rfl) rfl ?_
                refine wpR_gskip (b := true) (t := 119) rfl rfl rfl rfl ?_
                refine wpR_gskip (b := true) (t := 119) rfl rfl rfl rfl ?_
                refine wpR_v (OpV_pickT rfl rfl) rfl ?_
                refine wpR_nil ?_
                refine QE_then_n ?_
                exact wpC_le _ (by exact ⟨rfl, rfl, rfl, rfl, trivial⟩) (hK_19 true _ _ ⟨rfl, hS⟩ h)
              case false =>
                have h := if_f h hb_37
                try simp only [hb_37]
                refine wpR_gv (t := 111) rfl rfl (OpV_move rfl) rfl ?_
                refine wpR_gv (t := 111) rfl rfl (OpV_bin rfl rfl (b_eql8 _ x_16 47)) rfl ?_
                refine wpR_v (OpV_pickF rfl rfl) rfl ?_
                refine wpR_v (OpV_move rfl) rfl ?_
                cases hb_38 : (x_16 == 47)
                case true =>
                  have h := if_t h hb_38
                  try simp only [hb_38]
                  refine wpR_gskip (b := true) (t := 115) rfl rfl rfl rfl ?_
                  refine wpR_gskip (b := true) (t := 115) rfl rfl rfl rfl ?_
                  refine wpR_v (OpV_pickT rfl rfl) rfl ?_
                  refine wpR_v (OpV_move rfl) rfl ?_
                  refine wpR_gskip (b := true) (t := 119) rfl rfl rfl rfl ?_
                  refine wpR_gskip (b := true) (t := 119) rfl rfl rfl rfl ?_
                  refine wpR_v (OpV_pickT rfl rfl) rfl ?_
                  refine wpR_nil ?_
                  refine QE_then_n ?_
                  exact wpC_le _ (by exact ⟨rfl, rfl, rfl, rfl, trivial⟩) (hK_19 true _ _ ⟨rfl, hS⟩ h)
                case false =>
                  have h := if_f h hb_38
                  try simp only [hb_38]
                  refine wpR_gv (t := 115) rfl rfl (OpV_move rfl) rfl ?_
                  refine wpR_gv (t := 115) rfl rfl (OpV_bin rfl rfl (b_eql8 _ x_17 45)) rfl ?_
                  refine wpR_v (OpV_pickF rfl rfl) rfl ?_
                  refine wpR_v (OpV_move rfl) rfl ?_
                  cases hb_39 : (x_17 == 45)
                  case true =>
                    have h := if_t h hb_39
                    try simp only [hb_39]
                    refine wpR_gskip (b := true) (t := 119) rfl rfl rfl rfl ?_
                    refine wpR_gskip (b := true) (t := 119) rfl rfl rfl rfl ?_
                    refine wpR_v (OpV_pickT rfl rfl) rfl ?_
                    refine wpR_nil ?_
                    refine QE_then_n ?_
                    exact wpC_le _ (by exact ⟨rfl, rfl, rfl, rfl, trivial⟩) (hK_19 true _ _ ⟨rfl, hS⟩ h)
                  case false =>
                    have h := if_f h hb_39
                    try simp only [hb_39]
                    refine wpR_gv (t := 119) rfl rfl (OpV_move rfl) rfl ?_
                    refine wpR_gv (t := 119) rfl rfl (OpV_bin rfl rfl (b_eql8 _ x_17 95)) rfl ?_
                    refine wpR_v (OpV_pickF rfl rfl) rfl ?_
                    refine wpR_nil ?_
                    refine QE_then_n ?_
                    exact wpC_le _ (by exact ⟨rfl, rfl, rfl, rfl, trivial⟩) (hK_19 (x_17 == 95) _ _ ⟨rfl, hS⟩ h)
        · have h := if_f h hb_48
          refine wpC_exit ?_
          refine QE_then_x ?_
          refine QE_then_x ?_
          have h := oinr_some h hk_13
          refine QE_blk_x ?_
          refine QE_then_n ?_
          refine wpC_seq ?_
          refine wpC_seq ?_
          refine wpC_region ?_
          refine wpR_v (OpV_move rfl) rfl ?_
          refine wpR_v (OpV_lenS Try.underlying9 rfl) rfl ?_
          refine wpR_v (OpV_assign rfl) rfl ?_
          refine wpR_nil ?_
          refine QE_then_n ?_
          refine wpC_block ?_
          refine wpC_le [(4, vS x_3), (14, vI (x_2.length : Int))] ⟨rfl, rfl, trivial⟩ ?_
          refine loop_ind (F.law1_B64Back_L2 x_3) (fun (s : Int) L w => L = [(4, vS x_3), (14, vI s)] ∧ St [] w0 w []) ?_ (x_2.length : Int) ⟨rfl, hS⟩ h
          rintro k_47 x_40 L w q_43 hI ih_42 h hk_41
          try dsimp only at hI
          obtain ⟨rfl, hS⟩ := hI
          unfold F.law1_B64Back_L2 at h
          refine wpC_seq ?_
          refine wpC_seq ?_
          refine wpC_region ?_
          refine wpR_v (OpV_move rfl) rfl ?_
          refine wpR_v (OpV_move rfl) rfl ?_
          refine wpR_v (OpV_lenS Try.underlying9 rfl) rfl ?_
          refine wpR_v (OpV_bin rfl rfl (b_ilss _ x_40 (x_3.length : Int))) rfl ?_
          refine wpR_nil ?_
          refine QE_then_n ?_
          refine wpC_cond rfl (fun hb_46 => ?_) (fun hb_46 => ?_)
          · have h := if_t h hb_46
            refine wpC_skip ?_
            refine QE_then_n ?_
            refine wpC_seq ?_
            refine wpC_block ?_
            refine wpC_seq ?_
            refine wpC_region ?_
            refine wpR_v (OpV_move rfl) rfl ?_
            refine wpR_v (OpV_move rfl) rfl ?_
            obtain ⟨x_44, hx_44, h⟩ := obind_some h
            refine wpR_v (G_ixS Try.underlying9 rfl rfl hx_44) rfl ?_
            refine wpR_v (OpV_bin rfl rfl (b_neq8 _ x_44 61)) rfl ?_
            refine wpR_nil ?_
            refine QE_then_n ?_
            refine wpC_cond rfl (fun hb_45 => ?_) (fun hb_45 => ?_)
            · have h := if_t h hb_45
              refine wpC_seq ?_
              refine wpC_region ?_
              refine wpR_v (OpV_assign rfl) rfl ?_
              refine wpR_nil ?_
              refine QE_then_n ?_
              refine wpC_ret ?_
              refine QE_blk_r ?_
              refine QE_then_r ?_
              refine QE_then_r ?_
              have h := oinr_some h hk_41
              refine QE_blk_r ?_
              refine QE_then_r ?_
              cases h
              exact QE_ret1 rfl rfl ⟨rfl, hS⟩
            · have h := if_f h hb_45
              refine wpC_skip ?_
              refine QE_blk_n ?_
              refine QE_then_n ?_
              refine wpC_region ?_
              refine wpR_v (OpV_move rfl) rfl ?_
              refine wpR_v (OpV_bin rfl rfl (b_iadd _ x_40 1)) rfl ?_
              refine wpR_v (OpV_assign rfl) rfl ?_
              refine wpR_nil ?_
              exact QE_rnd (wpN_le _ (by exact ⟨rfl, rfl, trivial⟩) (ih_42 (wI (x_40 + 1)) _ _ ⟨rfl, hS⟩ (oinl_some h hk_41)))
          · have h := if_f h hb_46
            refine wpC_exit ?_
            refine QE_then_x ?_
            refine QE_then_x ?_
            have h := oinr_some h hk_41
            refine QE_blk_x ?_
            refine QE_then_n ?_
            refine wpC_seq ?_
            refine wpC_region ?_
            refine wpR_v (OpV_assign rfl) rfl ?_
            refine wpR_nil ?_
            refine QE_then_n ?_
            refine wpC_ret ?_
            cases h
            exact QE_ret1 rfl rfl ⟨rfl, hS⟩
    · intro hK_11
      refine wpC_region ?_
      refine wpR_v (OpV_move rfl) rfl ?_
      refine wpR_v (OpV_bin rfl rfl (b_ineq _ x_4.2.1 0)) rfl ?_
      refine wpR_v (OpV_move rfl) rfl ?_
      cases hb_51 : (x_4.2.1 != 0)
      case true =>
        have h := if_t h hb_51
        try simp only [hb_51]
        refine wpR_gskip (b := true) (t := 35) rfl rfl rfl rfl ?_
        refine wpR_gskip (b := true) (t := 35) rfl rfl rfl rfl ?_
        refine wpR_v (OpV_pickT rfl rfl) rfl ?_
        refine wpR_v (OpV_move rfl) rfl ?_
        refine wpR_gskip (b := true) (t := 39) rfl rfl rfl rfl ?_
        refine wpR_gskip (b := true) (t := 39) rfl rfl rfl rfl ?_
        refine wpR_gskip (b := true) (t := 39) rfl rfl rfl rfl ?_
        refine wpR_gskip (b := true) (t := 39) rfl rfl rfl rfl ?_
        refine wpR_v (OpV_pickT rfl rfl) rfl ?_
        refine wpR_v (OpV_move rfl) rfl ?_
        refine wpR_gskip (b := true) (t := 45) rfl rfl rfl rfl ?_
        refine wpR_gskip (b := true) (t := 45) rfl rfl rfl rfl ?_
        refine wpR_gskip (b := true) (t := 45) rfl rfl rfl rfl ?_
        refine wpR_gskip (b := true) (t := 45) rfl rfl rfl rfl ?_
        refine wpR_v (OpV_pickT rfl rfl) rfl ?_
        refine wpR_v (OpV_move rfl) rfl ?_
        refine wpR_gskip (b := true) (t := 51) rfl rfl rfl rfl ?_
        refine wpR_gskip (b := true) (t := 51) rfl rfl rfl rfl ?_
        refine wpR_gskip (b := true) (t := 51) rfl rfl rfl rfl ?_
        refine wpR_gskip (b := true) (t := 51) rfl rfl rfl rfl ?_
        refine wpR_v (OpV_pickT rfl rfl) rfl ?_
        refine wpR_v (OpV_move rfl) rfl ?_
        refine wpR_gskip (b := true) (t := 57) rfl rfl rfl rfl ?_
        refine wpR_gskip (b := true) (t := 57) rfl rfl rfl rfl ?_
        refine wpR_gskip (b := true) (t := 57) rfl rfl rfl rfl ?_
        refine wpR_gskip (b := true) (t := 57) rfl rfl rfl rfl ?_
        refine wpR_gskip (b := true) (t := 57) rfl rfl rfl rfl ?_
        refine wpR_gskip (b := true) (t := 57) rfl rfl rfl rfl ?_
        refine wpR_gskip (b := true) (t := 57) rfl rfl rfl rfl ?_
        refine wpR_gskip (b := true) (t := 57) rfl rfl rfl rfl ?_
        refine wpR_v (OpV_pickT rfl rfl) rfl ?_
        refine wpR_v (OpV_move rfl) rfl ?_
        refine wpR_gskip (b := true) (t := 67) rfl rfl rfl rfl ?_
        refine wpR_gskip (b := true) (t := 67) rfl rfl rfl rfl ?_
        refine wpR_gskip (b := true) (t := 67) rfl rfl rfl rfl ?_
        refine wpR_gskip (b := true) (t := 67) rfl rfl rfl rfl ?_
        refine wpR_gskip (b := true) (t := 67) rfl rfl rfl rfl ?_
        refine wpR_v (OpV_pickT rfl rfl) rfl ?_
        refine wpR_nil ?_
        refine QE_then_n ?_
        exact wpC_le _ (by exact ⟨rfl, rfl, rfl, trivial⟩) (hK_11 true _ _ ⟨rfl, (hS.pick [] (by decide) rfl)⟩ h)
      case false =>
        have h := if_f h hb_51
        try simp only [hb_51]
        refine wpR_gv (t := 35) rfl rfl (OpV_move rfl) rfl ?_
        refine wpR_gv (t := 35) rfl rfl (OpV_bin rfl rfl (b_ineq _ x_7.2.1 0)) rfl ?_
        refine wpR_v (OpV_pickF rfl rfl) rfl ?_
        refine wpR_v (OpV_move rfl) rfl ?_
        cases hb_52 : (x_7.2.1 != 0)
        case true =>
          have h := if_t h hb_52
          try simp only [hb_52]
          refine wpR_gskip (b := true) (t := 39) rfl rfl rfl rfl ?_
          refine wpR_gskip (b := true) (t := 39) rfl rfl rfl rfl ?_
          refine wpR_gskip (b := true) (t := 39) rfl rfl rfl rfl ?_
          refine wpR_gskip (b := true) (t := 39) rfl rfl rfl rfl ?_
          refine wpR_v (OpV_pickT rfl rfl) rfl ?_
          refine wpR_v (OpV_move rfl) rfl ?_
          refine wpR_gskip (b := true) (t := 45) rfl rfl rfl rfl ?_
          refine wpR_gskip (b := true) (t := 45) rfl rfl rfl rfl ?_
          refine wpR_gskip (b := true) (t := 45) rfl rfl rfl rfl ?_
          refine wpR_gskip (b := true) (t := 45) rfl rfl rfl rfl ?_
          refine wpR_v (OpV_pickT rfl rfl) rfl ?_
          refine wpR_v (OpV_move rfl) rfl ?_
          refine wpR_gskip (b := true) (t := 51) rfl rfl rfl rfl ?_
          refine wpR_gskip (b := true) (t := 51) rfl rfl rfl rfl ?_
          refine wpR_gskip (b := true) (t := 51) rfl rfl rfl rfl ?_
          refine wpR_gskip (b := true) (t := 51) rfl rfl rfl rfl ?_
          refine wpR_v (OpV_pickT rfl rfl) rfl ?_
          refine wpR_v (OpV_move rfl) rfl ?_
          refine wpR_gskip (b := true) (t := 57) rfl rfl rfl rfl ?_
          refine wpR_gskip (b := true) (t := 57) rfl rfl rfl rfl ?_
          refine wpR_gskip (b := true) (t := 57) rfl rfl rfl rfl ?_
          refine wpR_gskip (b := true) (t := 57) rfl rfl rfl rfl ?_
          refine wpR_gskip (b := true) (t := 57) rfl rfl rfl rfl ?_
          refine wpR_gskip (b := true) (t := 57) rfl rfl rfl rfl ?_
          refine wpR_gskip (b := true) (t := 57) rfl rfl rfl rfl ?_
          refine wpR_gskip (b := true) (t := 57) rfl rfl rfl rfl ?_
          refine wpR_v (OpV_pickT rfl rfl) rfl ?_
          refine wpR_v (OpV_move rfl) rfl ?_
          refine wpR_gskip (b := true) (t := 67) rfl rfl rfl rfl ?_
          refine wpR_gskip (b := true) (t := 67) rfl rfl rfl rfl ?_
          refine wpR_gskip (b := true) (t := 67) rfl rfl rfl rfl ?_
          refine wpR_gskip (b := true) (t := 67) rfl rfl rfl rfl ?_
          refine wpR_gskip (b := true) (t := 67) rfl rfl rfl rfl ?_
          refine wpR_v (OpV_pickT rfl rfl) rfl ?_
          refine wpR_nil ?_
          refine QE_then_n ?_
          exact wpC_le _ (by exact ⟨rfl, rfl, rfl, trivial⟩) (hK_11 true _ _ ⟨rfl, (hS.pick [] (by decide) rfl)⟩ h)
        case false =>
          have h := if_f h hb_52
          try simp only [hb_52]
          refine wpR_gv (t := 39) rfl rfl (OpV_move rfl) rfl ?_
          refine wpR_gv (t := 39) rfl rfl (OpV_move rfl) rfl ?_
          obtain ⟨x_53, hx_53, h⟩ := obind_some h
          refine wpR_gcall (t := 39) rfl rfl (by kernel_rfl) rfl (c_law1_same _ x_4.1 a0 v_5 va0 (hS.ro 1 rfl).rp (ha0.now hS.fr).rp _ hx_53) rfl ?_
          rintro _ w ⟨rfl, hS1⟩
          have hS := hS.call hS1
          simp only [List.nil_append] at hS
          refine wpR_gv (t := 39) rfl rfl (OpV_un rfl (u_not x_53)) rfl ?_
          refine wpR_v (OpV_pickF rfl rfl) rfl ?_
          refine wpR_v (OpV_move rfl) rfl ?_
          cases hb_54 : (!x_53)
          case true =>
            have h := if_t h hb_54
            try simp only [hb_54]
            refine wpR_gskip (b := true) (t := 45) rfl rfl rfl rfl ?_
            refine wpR_gskip (b := true) (t := 45) rfl rfl rfl rfl ?_
            refine wpR_gskip (b := true) (t := 45) rfl rfl rfl rfl ?_
            refine wpR_gskip (b := true) (t := 45) rfl rfl rfl rfl ?_
            refine wpR_v (OpV_pickT rfl rfl) rfl ?_
            refine wpR_v (OpV_move rfl) rfl ?_
            refine wpR_gskip (b := true) (t := 51) rfl rfl rfl rfl ?_
            refine wpR_gskip (b := true) (t := 51) rfl rfl rfl rfl ?_
            refine wpR_gskip (b := true) (t := 51) rfl rfl rfl rfl ?_
            refine wpR_gskip (b := true) (t := 51) rfl rfl rfl rfl ?_
            refine wpR_v (OpV_pickT rfl rfl) rfl ?_
            refine wpR_v (OpV_move rfl) rfl ?_
            refine wpR_gskip (b := true) (t := 57) rfl rfl rfl rfl ?_
            refine wpR_gskip (b := true) (t := 57) rfl rfl rfl rfl ?_
            refine wpR_gskip (b := true) (t := 57) rfl rfl rfl rfl ?_
            refine wpR_gskip (b := true) (t := 57) rfl rfl rfl rfl ?_
            refine wpR_gskip (b := true) (t := 57) rfl rfl rfl rfl ?_
            refine wpR_gskip (b := true) (t := 57) rfl rfl rfl rfl ?_
            refine wpR_gskip (b := true) (t := 57) rfl rfl rfl rfl ?_
            refine wpR_gskip (b := true) (t := 57) rfl rfl rfl rfl ?_
            refine wpR_v (OpV_pickT rfl rfl) rfl ?_
            refine wpR_v (OpV_move rfl) rfl ?_
            refine wpR_gskip (b := true) (t := 67) rfl rfl rfl rfl ?_
            refine wpR_gskip (b := true) (t := 67) rfl rfl rfl rfl ?_
            refine wpR_gskip (b := true) (t := 67) rfl rfl rfl rfl ?_
            refine wpR_gskip (b := true) (t := 67) rfl rfl rfl rfl ?_
            refine wpR_gskip (b := true) (t := 67) rfl rfl rfl rfl ?_
            refine wpR_v (OpV_pickT rfl rfl) rfl ?_
            refine wpR_nil ?_
            refine QE_then_n ?_
            exact wpC_le _ (by exact ⟨rfl, rfl, rfl, trivial⟩) (hK_11 true _ _ ⟨rfl, (hS.pick [] (by decide) rfl)⟩ h)
          case false =>
            have h := if_f h hb_54
            try simp only [hb_54]
            refine wpR_gv (t := 45) rfl rfl (OpV_move rfl) rfl ?_
            refine wpR_gv (t := 45) rfl rfl (OpV_move rfl) rfl ?_
            obtain ⟨x_55, hx_55, h⟩ := obind_some h
            refine wpR_gcall (t := 45) rfl rfl (by kernel_rfl) rfl (c_law1_same _ x_7.1 a0 v_8 va0 (hS.ro 0 rfl).rp (ha0.now hS.fr).rp _ hx_55) rfl ?_
            rintro _ w ⟨rfl, hS1⟩
            have hS := hS.call hS1
            simp only [List.nil_append] at hS
            refine wpR_gv (t := 45) rfl rfl (OpV_un rfl (u_not x_55)) rfl ?_
            refine wpR_v (OpV_pickF rfl rfl) rfl ?_
            refine wpR_v (OpV_move rfl) rfl ?_
            cases hb_56 : (!x_55)
            case true =>
              have h := if_t h hb_56
              try simp only [hb_56]
              refine wpR_gskip (b := true) (t := 51) rfl rfl rfl rfl ?_
              refine wpR_gskip (b := true) (t := 51) rfl rfl rfl rfl ?_
              refine wpR_gskip (b := true) (t := 51) rfl rfl rfl rfl ?_
              refine wpR_gskip (b := true) (t := 51) rfl rfl rfl rfl ?_
              refine wpR_v (OpV_pickT rfl rfl) rfl ?_
              refine wpR_v (OpV_move rfl) rfl ?_
              refine wpR_gskip (b := true) (t := 57) rfl rfl rfl rfl ?_
              refine wpR_gskip (b := true) (t := 57) rfl rfl rfl rfl ?_
              refine wpR_gskip (b := true) (t := 57) rfl rfl rfl rfl ?_
              refine wpR_gskip (b := true) (t := 57) rfl rfl rfl rfl ?_
              refine wpR_gskip (b := true) (t := 57) rfl rfl rfl rfl ?_
              refine wpR_gskip (b := true) (t := 57) rfl rfl rfl rfl ?_
              refine wpR_gskip (b := true) (t := 57) rfl rfl rfl rfl ?_
              refine wpR_gskip (b := true) (t := 57) rfl rfl rfl rfl ?_
              refine wpR_v (OpV_pickT rfl rfl) rfl ?_
              refine wpR_v (OpV_move rfl) rfl ?_
              refine wpR_gskip (b := true) (t := 67) rfl rfl rfl rfl ?_
              refine wpR_gskip (b := true) (t := 67) rfl rfl rfl rfl ?_
              refine wpR_gskip (b := true) (t := 67) rfl rfl rfl rfl ?_
              refine wpR_gskip (b := true) (t := 67) rfl rfl rfl rfl ?_
              refine wpR_gskip (b := true) (t := 67) rfl rfl rfl rfl ?_
              refine wpR_v (OpV_pickT rfl rfl) rfl ?_
              refine wpR_nil ?_
              refine QE_then_n ?_
              exact wpC_le _ (by exact ⟨rfl, rfl, rfl, trivial⟩) (hK_11 true _ _ ⟨rfl, (hS.pick [] (by decide) rfl)⟩ h)
            case false =>
              have h := if_f h hb_56
              try simp only [hb_56]
              refine wpR_gv (t := 51) rfl rfl (OpV_move rfl) rfl ?_
              refine wpR_gv (t := 51) rfl rfl (OpV_lenS Try.underlying9 rfl) rfl ?_
              refine wpR_gv (t := 51) rfl rfl (OpV_bin rfl rfl (b_irem _ (x_3.length : Int) 4 (by decide))) rfl ?_
              refine wpR_gv (t := 51) rfl rfl (OpV_bin rfl rfl (b_ineq _ (Int.tmod (x_3.length : Int) 4) 0)) rfl ?_
              refine wpR_v (OpV_pickF rfl rfl) rfl ?_
              refine wpR_v (OpV_move rfl) rfl ?_
              cases hb_57 : ((Int.tmod (x_3.length : Int) 4) != 0)
              case true =>
                have h := if_t h hb_57
                try simp only [hb_57]
                refine wpR_gskip (b := true) (t := 57) rfl rfl rfl rfl ?_
                refine wpR_gskip (b := true) (t := 57) rfl rfl rfl rfl ?_
                refine wpR_gskip (b := true) (t := 57) rfl rfl rfl rfl ?_
                refine wpR_gskip (b := true) (t := 57) rfl rfl rfl rfl ?_
                refine wpR_gskip (b := true) (t := 57) rfl rfl rfl rfl ?_
                refine wpR_gskip (b := true) (t := 57) rfl rfl rfl rfl ?_
                refine wpR_gskip (b := true) (t := 57) rfl rfl rfl rfl ?_
                refine wpR_gskip (b := true) (t := 57) rfl rfl rfl rfl ?_
                refine wpR_v (OpV_pickT rfl rfl) rfl ?_
                refine wpR_v (OpV_move rfl) rfl ?_
                refine wpR_gskip (b := true) (t := 67) rfl rfl rfl rfl ?_
                refine wpR_gskip (b := true) (t := 67) rfl rfl rfl rfl ?_
                refine wpR_gskip (b := true) (t := 67) rfl rfl rfl rfl ?_
                refine wpR_gskip (b := true) (t := 67) rfl rfl rfl rfl ?_
                refine wpR_gskip (b := true) (t := 67) rfl rfl rfl rfl ?_
                refine wpR_v (OpV_pickT rfl rfl) rfl ?_
                refine wpR_nil ?_
                refine QE_then_n ?_
                exact wpC_le _ (by exact ⟨rfl, rfl, rfl, trivial⟩) (hK_11 true _ _ ⟨rfl, (hS.pick [] (by decide) rfl)⟩ h)
              case false =>
                have h := if_f h hb_57
                try simp only [hb_57]
                refine wpR_gv (t := 57) rfl rfl (OpV_move rfl) rfl ?_
                refine wpR_gv (t := 57) rfl rfl (OpV_lenS Try.underlying9 rfl) rfl ?_
                refine wpR_gv (t := 57) rfl rfl (OpV_move rfl) rfl ?_
                refine wpR_gv (t := 57) rfl rfl (OpV_len Try.underlying22 rfl (ha0.now hS.fr)) rfl ?_
                refine wpR_gv (t := 57) rfl rfl (OpV_bin rfl rfl (b_imul _ 8 (a0.length : Int))) rfl ?_
                refine wpR_gv (t := 57) rfl rfl (OpV_bin rfl rfl (b_iadd _ (wI (8 * (a0.length : Int))) 5)) rfl ?_
                refine wpR_gv (t := 57) rfl rfl (OpV_bin rfl rfl (b_iquo _ (wI ((wI (8 * (a0.length : Int))) + 5)) 6 (by decide))) rfl ?_
                refine wpR_gv (t := 57) rfl rfl (OpV_bin rfl rfl (b_ineq _ (x_2.length : Int) (wI (Int.tdiv (wI ((wI (8 * (a0.length : Int))) + 5)) 6)))) rfl ?_
                refine wpR_v (OpV_pickF rfl rfl) rfl ?_
                refine wpR_v (OpV_move rfl) rfl ?_
                cases hb_58 : ((x_2.length : Int) != (wI (Int.tdiv (wI ((wI (8 * (a0.length : Int))) + 5)) 6)))
                case true =>
                  have h := if_t h hb_58
                  try simp only [hb_58]
                  refine wpR_gskip (b := true) (t := 67) rfl rfl rfl rfl ?_
                  refine wpR_gskip (b := true) (t := 67) rfl rfl rfl rfl ?_
                  refine wpR_gskip (b := true) (t := 67) rfl rfl rfl rfl ?_
                  refine wpR_gskip (b := true) (t := 67) rfl rfl rfl rfl ?_
                  refine wpR_gskip (b := true) (t := 67) rfl rfl rfl rfl ?_
                  refine wpR_v (OpV_pickT rfl rfl) rfl ?_
                  refine wpR_nil ?_
                  refine QE_then_n ?_
                  exact wpC_le _ (by exact ⟨rfl, rfl, rfl, trivial⟩) (hK_11 true _ _ ⟨rfl, (hS.pick [] (by decide) rfl)⟩ h)
                case false =>
                  have h := if_f h hb_58
                  try simp only [hb_58]
                  refine wpR_gv (t := 67) rfl rfl (OpV_move rfl) rfl ?_
                  refine wpR_gv (t := 67) rfl rfl (OpV_lenS Try.underlying9 rfl) rfl ?_
                  refine wpR_gv (t := 67) rfl rfl (OpV_move rfl) rfl ?_
                  refine wpR_gv (t := 67) rfl rfl (OpV_lenS Try.underlying9 rfl) rfl ?_
                  refine wpR_gv (t := 67) rfl rfl (OpV_bin rfl rfl (b_ilss _ (x_3.length : Int) (x_2.length : Int))) rfl ?_
                  refine wpR_v (OpV_pickF rfl rfl) rfl ?_
                  refine wpR_nil ?_
                  refine QE_then_n ?_
                  exact wpC_le _ (by exact ⟨rfl, rfl, rfl, trivial⟩) (hK_11 (decide ((x_3.length : Int) < (x_2.length : Int))) _ _ ⟨rfl, (hS.pick [] (by decide) rfl)⟩ h)

theorem c_law1_sign (w0 : World) (a0 : UInt8)   (r : Int)
    (h : F.law1_sign a0 = some r) : Calls Try.prog 22 #[v8 a0] w0 (Ret fun v w => v = vI r ∧ St [] w0 w []) := by
  refine calls_at 41 Try.func22 rfl rfl rfl ?_
  have hS := St.start w0
  refine wpC_le [(0, v8 a0)] ⟨rfl, trivial⟩ ?_
  unfold F.law1_sign at h
  refine wpC_seq ?_
  refine wpC_region ?_
  refine wpR_v (OpV_assign rfl) rfl ?_
  refine wpR_nil ?_
  refine QE_then_n ?_
  refine wpC_seq ?_
  refine wpC_block ?_
  refine seq_join (r := r) (fun (g : Bool) L w => L = [(0, v8 a0), (3, vB g)] ∧ St [] w0 w []) (F.law1_sign_K1 a0) ?_ ?_
  · rintro x_1 L w hJ h
    try dsimp only at hJ
    obtain ⟨rfl, hS⟩ := hJ
    unfold F.law1_sign_K1 at h
    refine wpC_cond rfl (fun hb_13 => ?_) (fun hb_13 => ?_)
    · have h := if_t h hb_13
      refine wpC_seq ?_
      refine wpC_region ?_
      refine wpR_v (OpV_move rfl) rfl ?_
      refine wpR_v (OpV_bin rfl rfl (b_sub8 _ a0 65)) rfl ?_
      refine wpR_v (OpV_conv rfl (cv_8_i Try.underlying5 Try.underlying3 (a0 - 65))) rfl ?_
      refine wpR_v (OpV_assign rfl) rfl ?_
      refine wpR_nil ?_
      refine QE_then_n ?_
      refine wpC_ret ?_
      refine QE_blk_r ?_
      refine QE_then_r ?_
      cases h
      exact QE_ret1 rfl rfl ⟨rfl, hS⟩
    · have h := if_f h hb_13
      refine seq_join (r := r) (fun (g : Bool) L w => L = [(0, v8 a0), (13, vB g)] ∧ St [] w0 w []) (F.law1_sign_K2 a0) ?_ ?_
      · rintro x_3 L w hJ h
        try dsimp only at hJ
        obtain ⟨rfl, hS⟩ := hJ
        unfold F.law1_sign_K2 at h
        refine wpC_cond rfl (fun hb_11 => ?_) (fun hb_11 => ?_)
        · have h := if_t h hb_11
          refine wpC_seq ?_
          refine wpC_region ?_
          refine wpR_v (OpV_move rfl) rfl ?_
          refine wpR_v (OpV_bin rfl rfl (b_sub8 _ a0 97)) rfl ?_
          refine wpR_v (OpV_conv rfl (cv_8_i Try.underlying5 Try.underlying3 (a0 - 97))) rfl ?_
          refine wpR_v (OpV_bin rfl rfl (b_iadd _ ((a0 - 97).toNat : Int) 26)) rfl ?_
          refine wpR_v (OpV_assign rfl) rfl ?_
          refine wpR_nil ?_
          refine QE_then_n ?_
          refine wpC_ret ?_
          refine QE_blk_r ?_
          refine QE_then_r ?_
          cases h
          exact QE_ret1 rfl rfl ⟨rfl, hS⟩
        · have h := if_f h hb_11
          refine seq_join (r := r) (fun (g : Bool) L w => L = [(0, v8 a0), (24, vB g)] ∧ St [] w0 w []) (F.law1_sign_K3 a0) ?_ ?_
          · rintro x_5 L w hJ h
            try dsimp only at hJ
            obtain ⟨rfl, hS⟩ := hJ
            unfold F.law1_sign_K3 at h
            refine wpC_cond rfl (fun hb_9 => ?_) (fun hb_9 => ?_)
            · have h := if_t h hb_9
              refine wpC_seq ?_
              refine wpC_region ?_
              refine wpR_v (OpV_move rfl) rfl ?_
              refine wpR_v (OpV_bin rfl rfl (b_sub8 _ a0 48)) rfl ?_
              refine wpR_v (OpV_conv rfl (cv_8_i Try.underlying5 Try.underlying3 (a0 - 48))) rfl ?_
              refine wpR_v (OpV_bin rfl rfl (b_iadd _ ((a0 - 48).toNat : Int) 52)) rfl ?_
              refine wpR_v (OpV_assign rfl) rfl ?_
              refine wpR_nil ?_
              refine QE_then_n ?_
              refine wpC_ret ?_
              refine QE_blk_r ?_
              refine QE_then_r ?_
              cases h
              exact QE_ret1 rfl rfl ⟨rfl, hS⟩
            · have h := if_f h hb_9
              refine wpC_seq ?_
              refine wpC_region ?_
              refine wpR_v (OpV_move rfl) rfl ?_
              refine wpR_v (OpV_bin rfl rfl (b_eql8 _ a0 45)) rfl ?_
              refine wpR_v (OpV_assign rfl) rfl ?_
              refine wpR_nil ?_
              refine QE_then_n ?_
              refine wpC_cond rfl (fun hb_8 => ?_) (fun hb_8 => ?_)
              · have h := if_t h hb_8
                refine wpC_seq ?_
                refine wpC_region ?_
                refine wpR_v (OpV_assign rfl) rfl ?_
                refine wpR_nil ?_
                refine QE_then_n ?_
                refine wpC_ret ?_
                refine QE_blk_r ?_
                refine QE_then_r ?_
                cases h
                exact QE_ret1 rfl rfl ⟨rfl, hS⟩
              · have h := if_f h hb_8
                refine wpC_seq ?_
                refine wpC_region ?_
                refine wpR_v (OpV_move rfl) rfl ?_
                refine wpR_v (OpV_bin rfl rfl (b_eql8 _ a0 95)) rfl ?_
                refine wpR_v (OpV_assign rfl) rfl ?_
                refine wpR_nil ?_
                refine QE_then_n ?_
                refine wpC_cond rfl (fun hb_7 => ?_) (fun hb_7 => ?_)
                · have h := if_t h hb_7
                  refine wpC_seq ?_
                  refine wpC_region ?_
                  refine wpR_v (OpV_assign rfl) rfl ?_
                  refine wpR_nil ?_
                  refine QE_then_n ?_
                  refine wpC_ret ?_
                  refine QE_blk_r ?_
                  refine QE_then_r ?_
                  cases h
                  exact QE_ret1 rfl rfl ⟨rfl, hS⟩
                · have h := if_f h hb_7
                  refine wpC_skip ?_
                  refine QE_blk_n ?_
                  refine QE_then_n ?_
                  refine wpC_seq ?_
                  refine wpC_region ?_
                  refine wpR_v (OpV_assign rfl) rfl ?_
                  refine wpR_nil ?_
                  refine QE_then_n ?_
                  refine wpC_ret ?_
                  cases h
                  exact QE_ret1 rfl rfl ⟨rfl, hS⟩
          · intro hK_6
            refine wpC_region ?_
            refine wpR_v (OpV_move rfl) rfl ?_
            refine wpR_v (OpV_bin rfl rfl (b_geq8 _ a0 48)) rfl ?_
            refine wpR_v (OpV_move rfl) rfl ?_
            cases hb_10 : (decide ((48 : UInt8) ≤ a0))
            case true =>
              have h := if_t h hb_10
              try simp only [hb_10]
              refine wpR_gv (t := 27) rfl rfl (OpV_move rfl) rfl ?_
              refine wpR_gv (t := 27) rfl rfl (OpV_bin rfl rfl (b_leq8 _ a0 57)) rfl ?_
              refine wpR_v (OpV_pickT rfl rfl) rfl ?_
              refine wpR_v (OpV_assign rfl) rfl ?_
              refine wpR_nil ?_
              refine QE_then_n ?_
              exact wpC_le _ (by exact ⟨rfl, rfl, trivial⟩) (hK_6 (decide (a0 ≤ 57)) _ _ ⟨rfl, hS⟩ h)
            case false =>
              have h := if_f h hb_10
              try simp only [hb_10]
              refine wpR_gskip (b := false) (t := 27) rfl rfl rfl rfl ?_
              refine wpR_gskip (b := false) (t := 27) rfl rfl rfl rfl ?_
              refine wpR_v (OpV_pickF rfl rfl) rfl ?_
              refine wpR_v (OpV_assign rfl) rfl ?_
              refine wpR_nil ?_
              refine QE_then_n ?_
              exact wpC_le _ (by exact ⟨rfl, rfl, trivial⟩) (hK_6 false _ _ ⟨rfl, hS⟩ h)
      · intro hK_4
        refine wpC_region ?_
        refine wpR_v (OpV_move rfl) rfl ?_
        refine wpR_v (OpV_bin rfl rfl (b_geq8 _ a0 97)) rfl ?_
        refine wpR_v (OpV_move rfl) rfl ?_
        cases hb_12 : (decide ((97 : UInt8) ≤ a0))
        case true =>
          have h := if_t h hb_12
          try simp only [hb_12]
          refine wpR_gv (t := 16) rfl rfl (OpV_move rfl) rfl ?_
          refine wpR_gv (t := 16) rfl rfl (OpV_bin rfl rfl (b_leq8 _ a0 122)) rfl ?_
          refine wpR_v (OpV_pickT rfl rfl) rfl ?_
          refine wpR_v (OpV_assign rfl) rfl ?_
          refine wpR_nil ?_
          refine QE_then_n ?_
          exact wpC_le _ (by exact ⟨rfl, rfl, trivial⟩) (hK_4 (decide (a0 ≤ 122)) _ _ ⟨rfl, hS⟩ h)
        case false =>
          have h := if_f h hb_12
          try simp only [hb_12]
          refine wpR_gskip (b := false) (t := 16) rfl rfl rfl rfl ?_
          refine wpR_gskip (b := false) (t := 16) rfl rfl rfl rfl ?_
          refine wpR_v (OpV_pickF rfl rfl) rfl ?_
          refine wpR_v (OpV_assign rfl) rfl ?_
          refine wpR_nil ?_
          refine QE_then_n ?_
          exact wpC_le _ (by exact ⟨rfl, rfl, trivial⟩) (hK_4 false _ _ ⟨rfl, hS⟩ h)
  · intro hK_2
    refine wpC_region ?_
    refine wpR_v (OpV_move rfl) rfl ?_
    refine wpR_v (OpV_bin rfl rfl (b_geq8 _ a0 65)) rfl ?_
    refine wpR_v (OpV_move rfl) rfl ?_
    cases hb_14 : (decide ((65 : UInt8) ≤ a0))
    case true =>
      have h := if_t h hb_14
      try simp only [hb_14]
      refine wpR_gv (t := 6) rfl rfl (OpV_move rfl) rfl ?_
      refine wpR_gv (t := 6) rfl rfl (OpV_bin rfl rfl (b_leq8 _ a0 90)) rfl ?_
      refine wpR_v (OpV_pickT rfl rfl) rfl ?_
      refine wpR_v (OpV_assign rfl) rfl ?_
      refine wpR_nil ?_
      refine QE_then_n ?_
      exact wpC_le _ (by exact ⟨rfl, rfl, trivial⟩) (hK_2 (decide (a0 ≤ 90)) _ _ ⟨rfl, hS⟩ h)
    case false =>
      have h := if_f h hb_14
      try simp only [hb_14]
      refine wpR_gskip (b := false) (t := 6) rfl rfl rfl rfl ?_
      refine wpR_gskip (b := false) (t := 6) rfl rfl rfl rfl ?_
      refine wpR_v (OpV_pickF rfl rfl) rfl ?_
      refine wpR_v (OpV_assign rfl) rfl ?_
      refine wpR_nil ?_
      refine QE_then_n ?_
      exact wpC_le _ (by exact ⟨rfl, rfl, trivial⟩) (hK_2 false _ _ ⟨rfl, hS⟩ h)
end Go.Proofs
