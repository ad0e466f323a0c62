/- Walks: each Go function of package law30 computes its plain function. Written by a program of ours. -/
import Derived.Test.YtcdneplfgppapaaDoorUW0
import Derived.Test.YtcdneplfgppapaaDoorGkFlaw30
import Derived.Test.YtcdneplfgppapaaDoorUWcborc
import Derived.Test.YtcdneplfgppapaaDoorUWref30d
set_option linter.unusedVariables false
set_option linter.unusedSimpArgs false
set_option linter.unusedVariables false
set_option maxRecDepth 4000
namespace Go.Proofs
open Go Go.RowKit Go.Gk

theorem c_law30_wide (w0 : World) (a0 : List (Int × UInt64 × (List UInt8) × Int)) (va0 : Value) (ha0 : RP [] w0 (eP eI (eP e64 (eP eS eI))) va0 a0) (r : (List (Int × UInt64 × (List UInt8) × Int) × Nat))
    (h : F.law30_wide a0 = some r) : Calls Tryd.prog 15 #[va0] w0 (Ret fun v w => ∃ u0 : Value, v = slV u0 (eP eI (eP e64 (eP eS eI))).sz 0 r.2 ∧ r.2 ≤ r.1.length ∧ St [] w0 w [own (eP eI (eP e64 (eP eS eI))) u0 r.1]) := by
  refine calls_at 16 Tryd.func15 rfl rfl rfl ?_
  have hS := St.start w0
  refine wpC_le [(0, va0)] ⟨rfl, trivial⟩ ?_
  unfold F.law30_wide at h
  refine wpC_seq ?_
  refine wpC_region ?_
  refine wpR_v (OpV_assign rfl) rfl ?_
  refine wpR_nil ?_
  refine QE_then_n ?_
  refine wpC_seq ?_
  refine wpC_region ?_
  refine wpR_v (OpV_assign rfl) rfl ?_
  refine wpR_nil ?_
  refine QE_then_n ?_
  refine wpC_seq ?_
  refine wpC_region ?_
  refine wpR_v (OpV_move rfl) rfl ?_
  refine wpR_v (OpV_move rfl) rfl ?_
  obtain ⟨x_1, hx_1, h⟩ := obind_some h
  refine wpR_x (G_append0 Tryd.underlying22 ti33 rfl rfl rfl hS (ha0.now hS.fr) hx_1) rfl ?_
  rintro v_2 w hS
  refine wpR_v (OpV_assign rfl) rfl ?_
  refine wpR_nil ?_
  refine QE_then_n ?_
  refine wpC_seq ?_
  refine wpC_region ?_
  refine wpR_v (OpV_move rfl) rfl ?_
  refine wpR_v (OpV_build (vs := [(2, vS [109, 97, 114, 107], [vS [109, 97, 114, 107]])]) (cells := [vI 0, v64 0, vS [109, 97, 114, 107], vI 0]) rfl lay33 ⟨rfl, trivial⟩ rfl) rfl ?_
  refine wpR_v (OpV_build (vs := [(2, vS [109, 97, 114, 107], [vS [109, 97, 114, 107]])]) (cells := [vI 0, v64 0, vS [109, 97, 114, 107], vI 0]) rfl lay33 ⟨rfl, trivial⟩ rfl) rfl ?_
  refine wpR_x (OpX_litE (e := (eP eI (eP e64 (eP eS eI)))) (l := ([(0, 0, [109, 97, 114, 107], 0), (0, 0, [109, 97, 114, 107], 0)] : List (Int × UInt64 × (List UInt8) × Int))) (vs := [(0, .agg #[vI 0, v64 0, vS [109, 97, 114, 107], vI 0], [vI 0, v64 0, vS [109, 97, 114, 107], vI 0]), (1, .agg #[vI 0, v64 0, vS [109, 97, 114, 107], vI 0], [vI 0, v64 0, vS [109, 97, 114, 107], vI 0])]) Tryd.underlying22 ti33 rfl ⟨rfl, rfl, trivial⟩ rfl rfl (Nat.le_of_ble_eq_true rfl) (Nat.le_of_ble_eq_true rfl) hS) rfl ?_
  rintro v_4 w hS
  obtain ⟨x_6, hx_6, h⟩ := obind_some h
  refine wpR_x (G_append Tryd.underlying22 ti33 rfl rfl rfl hS (i := 1) rfl (hS.ro 0 rfl) hx_6) rfl ?_
  rintro v_7 w hS
  refine wpR_v (OpV_assign rfl) rfl ?_
  refine wpR_nil ?_
  refine QE_then_n ?_
  refine wpC_seq ?_
  refine wpC_region ?_
  refine wpR_v (OpV_move rfl) rfl ?_
  refine wpR_v (OpV_move rfl) rfl ?_
  refine wpR_v (OpV_len Tryd.underlying22 rfl (ha0.now hS.fr)) rfl ?_
  obtain ⟨hg_9, h⟩ := grd_some h
  refine wpR_v (G_slh Tryd.underlying22 ti33 rfl rfl (hS.ro 1 rfl) (tkO_of hg_9)) rfl ?_
  refine wpR_v (OpV_assign rfl) rfl ?_
  refine wpR_nil ?_
  refine QE_then_n ?_
  refine wpC_ret ?_
  cases h
  exact QE_ret1 rfl rfl ⟨v_7, rfl, hg_9.2, hS.pick [1] (by decide) rfl⟩

theorem c_law30_sameBytes (w0 : World) (a0 : List UInt8) (a1 : List UInt8) (va0 : Value) (va1 : Value) (ha0 : RP [] w0 e8 va0 a0) (ha1 : RP [] w0 e8 va1 a1) (r : Bool)
    (h : F.law30_sameBytes a0 a1 = some r) : Calls Tryd.prog 19 #[va0, va1] w0 (Ret fun v w => v = vB r ∧ St [] w0 w []) := by
  refine calls_at 26 Tryd.func19 rfl rfl rfl ?_
  have hS := St.start w0
  refine wpC_le [(0, va0), (1, va1)] ⟨rfl, rfl, trivial⟩ ?_
  unfold F.law30_sameBytes at h
  refine wpC_seq ?_
  refine wpC_region ?_
  refine wpR_v (OpV_assign rfl) rfl ?_
  refine wpR_nil ?_
  refine QE_then_n ?_
  refine wpC_seq ?_
  refine wpC_seq ?_
  refine wpC_region ?_
  refine wpR_v (OpV_move rfl) rfl ?_
  refine wpR_v (OpV_len Tryd.underlying25 rfl (ha0.now hS.fr)) rfl ?_
  refine wpR_v (OpV_move rfl) rfl ?_
  refine wpR_v (OpV_len Tryd.underlying25 rfl (ha1.now hS.fr)) rfl ?_
  refine wpR_v (OpV_bin rfl rfl (b_ineq _ (a0.length : Int) (a1.length : Int))) rfl ?_
  refine wpR_nil ?_
  refine QE_then_n ?_
  refine wpC_cond rfl (fun hb_10 => ?_) (fun hb_10 => ?_)
  · have h := if_t h hb_10
    refine wpC_seq ?_
    refine wpC_region ?_
    refine wpR_v (OpV_assign rfl) rfl ?_
    refine wpR_nil ?_
    refine QE_then_n ?_
    refine wpC_ret ?_
    refine QE_then_r ?_
    cases h
    exact QE_ret1 rfl rfl ⟨rfl, hS⟩
  · have h := if_f h hb_10
    refine wpC_skip ?_
    refine QE_then_n ?_
    refine wpC_seq ?_
    refine wpC_seq ?_
    refine wpC_region ?_
    refine wpR_v (OpV_assign rfl) rfl ?_
    refine wpR_nil ?_
    refine QE_then_n ?_
    refine wpC_block ?_
    refine wpC_le [(0, va0), (1, va1), (5, vI 0)] ⟨rfl, rfl, rfl, trivial⟩ ?_
    refine loop_ind (F.law30_sameBytes_L1 a0 a1) (fun (s : Int) L w => L = [(0, va0), (1, va1), (5, vI s)] ∧ St [] w0 w []) ?_ 0 ⟨rfl, hS⟩ h
    rintro k_9 x_1 L w q_4 hI ih_3 h hk_2
    try dsimp only at hI
    obtain ⟨rfl, hS⟩ := hI
    unfold F.law30_sameBytes_L1 at h
    refine wpC_seq ?_
    refine wpC_seq ?_
    refine wpC_region ?_
    refine wpR_v (OpV_move rfl) rfl ?_
    refine wpR_v (OpV_move rfl) rfl ?_
    refine wpR_v (OpV_len Tryd.underlying25 rfl (ha0.now hS.fr)) rfl ?_
    refine wpR_v (OpV_bin rfl rfl (b_ilss _ x_1 (a0.length : Int))) rfl ?_
    refine wpR_nil ?_
    refine QE_then_n ?_
    refine wpC_cond rfl (fun hb_8 => ?_) (fun hb_8 => ?_)
    · have h := if_t h hb_8
      refine wpC_skip ?_
      refine QE_then_n ?_
      refine wpC_seq ?_
      refine wpC_block ?_
      refine wpC_seq ?_
      refine wpC_regionT (fun w' => St [] w0 w' []) (fun _ => true) hmix (fun _ _ _ hf => hf.2) (fun _ _ hf => hf) (by kernel_rfl) ?_
      have hS := hS.drew
      show lxE _ _ _ _ _ _ _ [0, 1, 2, 3, 4, 5, 6, 7, 8] _ _
      refine lxE_v hS rfl rfl (fun w hF => OpV_move rfl) rfl ?_
      refine lxE_v hS rfl rfl (fun w hF => OpV_move rfl) rfl ?_
      obtain ⟨x_5, hx_5, h⟩ := obind_some h
      refine lxE_v hS rfl rfl (fun w hF => G_ix Tryd.underlying25 ti5 rfl rfl (ha0.now hF.fr) hx_5) rfl ?_
      refine lxE_v hS rfl rfl (fun w hF => G_load Tryd.underlying5 rfl rfl (ha0.now hF.fr) hx_5 rfl) rfl ?_
      refine lxE_v hS rfl rfl (fun w hF => OpV_move rfl) rfl ?_
      refine lxE_v hS rfl rfl (fun w hF => OpV_move rfl) rfl ?_
      obtain ⟨x_6, hx_6, h⟩ := obind_some h
      refine lxE_v hS rfl rfl (fun w hF => G_ix Tryd.underlying25 ti5 rfl rfl (ha1.now hF.fr) hx_6) rfl ?_
      refine lxE_v hS rfl rfl (fun w hF => G_load Tryd.underlying5 rfl rfl (ha1.now hF.fr) hx_6 rfl) rfl ?_
      refine lxE_v hS rfl rfl (fun w hF => OpV_bin rfl rfl (b_neq8 _ x_5 x_6)) rfl ?_
      refine lxE_nil hS ?_
      refine QE_then_n ?_
      refine wpC_cond rfl (fun hb_7 => ?_) (fun hb_7 => ?_)
      · have h := if_t h hb_7
        refine wpC_seq ?_
        refine wpC_region ?_
        refine wpR_v (OpV_assign rfl) rfl ?_
        refine wpR_nil ?_
        refine QE_then_n ?_
        refine wpC_ret ?_
        refine QE_blk_r ?_
        refine QE_then_r ?_
        refine QE_then_r ?_
        have h := oinr_some h hk_2
        refine QE_blk_r ?_
        refine QE_then_r ?_
        cases h
        exact QE_ret1 rfl rfl ⟨rfl, hS⟩
      · have h := if_f h hb_7
        refine wpC_skip ?_
        refine QE_blk_n ?_
        refine QE_then_n ?_
        refine wpC_region ?_
        refine wpR_v (OpV_move rfl) rfl ?_
        refine wpR_v (OpV_bin rfl rfl (b_iadd _ x_1 1)) rfl ?_
        refine wpR_v (OpV_assign rfl) rfl ?_
        refine wpR_nil ?_
        exact QE_rnd (wpN_le _ (by exact ⟨rfl, rfl, rfl, trivial⟩) (ih_3 (wI (x_1 + 1)) _ _ ⟨rfl, hS⟩ (oinl_some h hk_2)))
    · have h := if_f h hb_8
      refine wpC_exit ?_
      refine QE_then_x ?_
      refine QE_then_x ?_
      have h := oinr_some h hk_2
      refine QE_blk_x ?_
      refine QE_then_n ?_
      refine wpC_seq ?_
      refine wpC_region ?_
      refine wpR_v (OpV_assign rfl) rfl ?_
      refine wpR_nil ?_
      refine QE_then_n ?_
      refine wpC_ret ?_
      cases h
      exact QE_ret1 rfl rfl ⟨rfl, hS⟩

theorem c_law30_same (w0 : World) (a0 : List (Int × UInt64 × (List UInt8) × Int)) (a1 : List (Int × UInt64 × (List UInt8) × Int)) (va0 : Value) (va1 : Value) (ha0 : RP [] w0 (eP eI (eP e64 (eP eS eI))) va0 a0) (ha1 : RP [] w0 (eP eI (eP e64 (eP eS eI))) va1 a1) (r : Bool)
    (h : F.law30_same a0 a1 = some r) : Calls Tryd.prog 25 #[va0, va1] w0 (Ret fun v w => v = vB r ∧ St [] w0 w []) := by
  refine calls_at 26 Tryd.func25 rfl rfl rfl ?_
  have hS := St.start w0
  refine wpC_le [(0, va0), (1, va1)] ⟨rfl, rfl, trivial⟩ ?_
  unfold F.law30_same at h
  refine wpC_seq ?_
  refine wpC_region ?_
  refine wpR_v (OpV_assign rfl) rfl ?_
  refine wpR_nil ?_
  refine QE_then_n ?_
  refine wpC_seq ?_
  refine wpC_seq ?_
  refine wpC_region ?_
  refine wpR_v (OpV_move rfl) rfl ?_
  refine wpR_v (OpV_len Tryd.underlying22 rfl (ha0.now hS.fr)) rfl ?_
  refine wpR_v (OpV_move rfl) rfl ?_
  refine wpR_v (OpV_len Tryd.underlying22 rfl (ha1.now hS.fr)) rfl ?_
  refine wpR_v (OpV_bin rfl rfl (b_ineq _ (a0.length : Int) (a1.length : Int))) rfl ?_
  refine wpR_nil ?_
  refine QE_then_n ?_
  refine wpC_cond rfl (fun hb_10 => ?_) (fun hb_10 => ?_)
  · have h := if_t h hb_10
    refine wpC_seq ?_
    refine wpC_region ?_
    refine wpR_v (OpV_assign rfl) rfl ?_
    refine wpR_nil ?_
    refine QE_then_n ?_
    refine wpC_ret ?_
    refine QE_then_r ?_
    cases h
    exact QE_ret1 rfl rfl ⟨rfl, hS⟩
  · have h := if_f h hb_10
    refine wpC_skip ?_
    refine QE_then_n ?_
    refine wpC_seq ?_
    refine wpC_seq ?_
    refine wpC_region ?_
    refine wpR_v (OpV_assign rfl) rfl ?_
    refine wpR_nil ?_
    refine QE_then_n ?_
    refine wpC_block ?_
    refine wpC_le [(0, va0), (1, va1), (5, vI 0)] ⟨rfl, rfl, rfl, trivial⟩ ?_
    refine loop_ind (F.law30_same_L1 a0 a1) (fun (s : Int) L w => L = [(0, va0), (1, va1), (5, vI s)] ∧ St [] w0 w []) ?_ 0 ⟨rfl, hS⟩ h
    rintro k_9 x_1 L w q_4 hI ih_3 h hk_2
    try dsimp only at hI
    obtain ⟨rfl, hS⟩ := hI
    unfold F.law30_same_L1 at h
    refine wpC_seq ?_
    refine wpC_seq ?_
    refine wpC_region ?_
    refine wpR_v (OpV_move rfl) rfl ?_
    refine wpR_v (OpV_move rfl) rfl ?_
    refine wpR_v (OpV_len Tryd.underlying22 rfl (ha0.now hS.fr)) rfl ?_
    refine wpR_v (OpV_bin rfl rfl (b_ilss _ x_1 (a0.length : Int))) rfl ?_
    refine wpR_nil ?_
    refine QE_then_n ?_
    refine wpC_cond rfl (fun hb_8 => ?_) (fun hb_8 => ?_)
    · have h := if_t h hb_8
      refine wpC_skip ?_
      refine QE_then_n ?_
      refine wpC_seq ?_
      refine wpC_block ?_
      refine wpC_seq ?_
      refine wpC_regionT (fun w' => St [] w0 w' []) (fun _ => true) hmix (fun _ _ _ hf => hf.2) (fun _ _ hf => hf) (by kernel_rfl) ?_
      have hS := hS.drew
      show lxE _ _ _ _ _ _ _ [0, 1, 2, 3, 4, 5, 6, 7, 8] _ _
      refine lxE_v hS rfl rfl (fun w hF => OpV_move rfl) rfl ?_
      refine lxE_v hS rfl rfl (fun w hF => OpV_move rfl) rfl ?_
      obtain ⟨x_5, hx_5, h⟩ := obind_some h
      refine lxE_v hS rfl rfl (fun w hF => G_ix Tryd.underlying22 ti33 rfl rfl (ha0.now hF.fr) hx_5) rfl ?_
      refine lxE_v hS rfl rfl (fun w hF => G_loadW Tryd.underlying33 rfl sz33 rfl (ha0.now hF.fr) hx_5) rfl ?_
      refine lxE_v hS rfl rfl (fun w hF => OpV_move rfl) rfl ?_
      refine lxE_v hS rfl rfl (fun w hF => OpV_move rfl) rfl ?_
      obtain ⟨x_6, hx_6, h⟩ := obind_some h
      refine lxE_v hS rfl rfl (fun w hF => G_ix Tryd.underlying22 ti33 rfl rfl (ha1.now hF.fr) hx_6) rfl ?_
      refine lxE_v hS rfl rfl (fun w hF => G_loadW Tryd.underlying33 rfl sz33 rfl (ha1.now hF.fr) hx_6) rfl ?_
      refine lxE_v hS rfl rfl (fun w hF => OpV_bin rfl rfl (agx (b' := x_5 != x_6) (b_agne Tryd.underlying33 sh33 eg33 (eqf_i rfl Tryd.underlying3 rfl rfl (eqf_64 rfl Tryd.underlying31 rfl rfl (eqf_s rfl Tryd.underlying9 rfl rfl (eqf_i rfl Tryd.underlying3 rfl rfl eqf_nil))))) (by simp only [Bool.and_true]; rfl))) rfl ?_
      refine lxE_nil hS ?_
      refine QE_then_n ?_
      refine wpC_cond rfl (fun hb_7 => ?_) (fun hb_7 => ?_)
      · have h := if_t h hb_7
        refine wpC_seq ?_
        refine wpC_region ?_
        refine wpR_v (OpV_assign rfl) rfl ?_
        refine wpR_nil ?_
        refine QE_then_n ?_
        refine wpC_ret ?_
        refine QE_blk_r ?_
        refine QE_then_r ?_
        refine QE_then_r ?_
        have h := oinr_some h hk_2
        refine QE_blk_r ?_
        refine QE_then_r ?_
        cases h
        exact QE_ret1 rfl rfl ⟨rfl, hS⟩
      · have h := if_f h hb_7
        refine wpC_skip ?_
        refine QE_blk_n ?_
        refine QE_then_n ?_
        refine wpC_region ?_
        refine wpR_v (OpV_move rfl) rfl ?_
        refine wpR_v (OpV_bin rfl rfl (b_iadd _ x_1 1)) rfl ?_
        refine wpR_v (OpV_assign rfl) rfl ?_
        refine wpR_nil ?_
        exact QE_rnd (wpN_le _ (by exact ⟨rfl, rfl, rfl, trivial⟩) (ih_3 (wI (x_1 + 1)) _ _ ⟨rfl, hS⟩ (oinl_some h hk_2)))
    · have h := if_f h hb_8
      refine wpC_exit ?_
      refine QE_then_x ?_
      refine QE_then_x ?_
      have h := oinr_some h hk_2
      refine QE_blk_x ?_
      refine QE_then_n ?_
      refine wpC_seq ?_
      refine wpC_region ?_
      refine wpR_v (OpV_assign rfl) rfl ?_
      refine wpR_nil ?_
      refine QE_then_n ?_
      refine wpC_ret ?_
      cases h
      exact QE_ret1 rfl rfl ⟨rfl, hS⟩

theorem c_law30_left (w0 : World) (a0 : List (Int × UInt64 × (List UInt8) × Int)) (k0 : Nat) (a1 : List (Int × UInt64 × (List UInt8) × Int)) (va0 : Value) (va1 : Value) (ha0 : RP [] w0 (eP eI (eP e64 (eP eS eI))) va0 a0) (hk0 : k0 ≤ a0.length) (ha1 : RP [] w0 (eP eI (eP e64 (eP eS eI))) va1 a1) (r : Bool)
    (h : F.law30_left a0 k0 a1 = some r) : Calls Tryd.prog 21 #[slV va0 (eP eI (eP e64 (eP eS eI))).sz 0 k0, va1] w0 (Ret fun v w => v = vB r ∧ St [] w0 w []) := by
  refine calls_at 33 Tryd.func21 rfl rfl rfl ?_
  have hS := St.start w0
  refine wpC_le [(0, slV va0 (eP eI (eP e64 (eP eS eI))).sz 0 k0), (1, va1)] ⟨rfl, rfl, trivial⟩ ?_
  unfold F.law30_left at h
  refine wpC_seq ?_
  refine wpC_region ?_
  refine wpR_v (OpV_assign rfl) rfl ?_
  refine wpR_nil ?_
  refine QE_then_n ?_
  refine wpC_seq ?_
  refine wpC_region ?_
  refine wpR_v (OpV_move rfl) rfl ?_
  refine wpR_v (OpV_move rfl) rfl ?_
  refine wpR_v (OpV_len Tryd.underlying22 rfl (ha1.now hS.fr)) rfl ?_
  refine wpR_v (OpV_bin rfl rfl (b_iadd _ (a1.length : Int) 2)) rfl ?_
  obtain ⟨hg_1, h⟩ := grd_some h
  refine wpR_v (G_slh_room Tryd.underlying22 ti33 rfl rfl (ha0.now hS.fr) (tkO_of hg_1)) rfl ?_
  refine wpR_v (OpV_assign rfl) rfl ?_
  refine wpR_nil ?_
  refine QE_then_n ?_
  refine wpC_seq ?_
  refine wpC_region ?_
  refine wpR_v (OpV_move rfl) rfl ?_
  refine wpR_v (OpV_move rfl) rfl ?_
  obtain ⟨x_2, hx_2, h⟩ := obind_some h
  refine wpR_call (by kernel_rfl) rfl (c_law30_same _ (a0.take k0) a1 (slV va0 (eP eI (eP e64 (eP eS eI))).sz 0 k0) va1  ((ha0.now hS.fr).tk hk0).rp (ha1.now hS.fr).rp _ hx_2) rfl ?_
  rintro _ w ⟨rfl, hS1⟩
  have hS := hS.call hS1
  simp only [List.cons_append, List.nil_append] at hS
  refine wpR_v (OpV_move rfl) rfl ?_
  cases hb_3 : x_2
  case true =>
    have h := if_t h hb_3
    try simp only [hb_3]
    refine wpR_gv (t := 14) rfl rfl (OpV_move rfl) rfl ?_
    refine wpR_gv (t := 14) rfl rfl (OpV_move rfl) rfl ?_
    refine wpR_gv (t := 14) rfl rfl (OpV_len Tryd.underlying22 rfl (ha1.now hS.fr)) rfl ?_
    obtain ⟨x_4, hx_4, h⟩ := obind_some h
    refine wpR_gv (t := 14) rfl rfl (G_ix_room Tryd.underlying22 ti33 rfl rfl (ha0.now hS.fr) hg_1.2 hx_4) rfl ?_
    refine wpR_gv (t := 14) rfl rfl (G_loadW Tryd.underlying33 rfl sz33 rfl (ha0.now hS.fr) (getO_take hx_4)) rfl ?_
    refine wpR_gv (t := 14) rfl rfl (OpV_build (vs := [(2, vS [109, 97, 114, 107], [vS [109, 97, 114, 107]])]) (cells := [vI 0, v64 0, vS [109, 97, 114, 107], vI 0]) rfl lay33 ⟨rfl, trivial⟩ rfl) rfl ?_
    refine wpR_gv (t := 14) rfl rfl (OpV_bin rfl rfl (agx (b' := x_4 == (0, 0, [109, 97, 114, 107], 0)) (b_ageq Tryd.underlying33 sh33 eg33 (eqf_i rfl Tryd.underlying3 rfl rfl (eqf_64 rfl Tryd.underlying31 rfl rfl (eqf_s rfl Tryd.underlying9 rfl rfl (eqf_i rfl Tryd.underlying3 rfl rfl eqf_nil))))) (by simp only [Bool.and_true]; rfl))) rfl ?_
    refine wpR_v (OpV_pickT rfl rfl) rfl ?_
    refine wpR_v (OpV_move rfl) rfl ?_
    cases hb_5 : (x_4 == (0, 0, [109, 97, 114, 107], 0))
    case true =>
      have h := if_t h hb_5
      try simp only [hb_5]
      refine wpR_gv (t := 23) rfl rfl (OpV_move rfl) rfl ?_
      refine wpR_gv (t := 23) rfl rfl (OpV_move rfl) rfl ?_
      refine wpR_gv (t := 23) rfl rfl (OpV_len Tryd.underlying22 rfl (ha1.now hS.fr)) rfl ?_
      refine wpR_gv (t := 23) rfl rfl (OpV_bin rfl rfl (b_iadd _ (a1.length : Int) 1)) rfl ?_
      obtain ⟨x_6, hx_6, h⟩ := obind_some h
      refine wpR_gv (t := 23) rfl rfl (G_ix_room Tryd.underlying22 ti33 rfl rfl (ha0.now hS.fr) hg_1.2 hx_6) rfl ?_
      refine wpR_gv (t := 23) rfl rfl (G_loadW Tryd.underlying33 rfl sz33 rfl (ha0.now hS.fr) (getO_take hx_6)) rfl ?_
      refine wpR_gv (t := 23) rfl rfl (OpV_build (vs := [(2, vS [109, 97, 114, 107], [vS [109, 97, 114, 107]])]) (cells := [vI 0, v64 0, vS [109, 97, 114, 107], vI 0]) rfl lay33 ⟨rfl, trivial⟩ rfl) rfl ?_
      refine wpR_gv (t := 23) rfl rfl (OpV_bin rfl rfl (agx (b' := x_6 == (0, 0, [109, 97, 114, 107], 0)) (b_ageq Tryd.underlying33 sh33 eg33 (eqf_i rfl Tryd.underlying3 rfl rfl (eqf_64 rfl Tryd.underlying31 rfl rfl (eqf_s rfl Tryd.underlying9 rfl rfl (eqf_i rfl Tryd.underlying3 rfl rfl eqf_nil))))) (by simp only [Bool.and_true]; rfl))) rfl ?_
      refine wpR_v (OpV_pickT rfl rfl) rfl ?_
      refine wpR_v (OpV_assign rfl) rfl ?_
      refine wpR_nil ?_
      refine QE_then_n ?_
      refine wpC_ret ?_
      cases h
      exact QE_ret1 rfl rfl ⟨rfl, hS⟩
    case false =>
      have h := if_f h hb_5
      try simp only [hb_5]
      refine wpR_gskip (b := false) (t := 23) rfl rfl rfl rfl ?_
      refine wpR_gskip (b := false) (t := 23) rfl rfl rfl rfl ?_
      refine wpR_gskip (b := false) (t := 23) rfl rfl rfl rfl ?_
      refine wpR_gskip (b := false) (t := 23) rfl rfl rfl rfl ?_
      refine wpR_gskip (b := false) (t := 23) rfl rfl rfl rfl ?_
      refine wpR_gskip (b := false) (t := 23) rfl rfl rfl rfl ?_
      refine wpR_gskip (b := false) (t := 23) rfl rfl rfl rfl ?_
      refine wpR_gskip (b := false) (t := 23) rfl rfl rfl rfl ?_
      refine wpR_v (OpV_pickF rfl rfl) rfl ?_
      refine wpR_v (OpV_assign rfl) rfl ?_
      refine wpR_nil ?_
      refine QE_then_n ?_
      refine wpC_ret ?_
      cases h
      exact QE_ret1 rfl rfl ⟨rfl, hS⟩
  case false =>
    have h := if_f h hb_3
    try simp only [hb_3]
    refine wpR_gskip (b := false) (t := 14) rfl rfl rfl rfl ?_
    refine wpR_gskip (b := false) (t := 14) rfl rfl rfl rfl ?_
    refine wpR_gskip (b := false) (t := 14) rfl rfl rfl rfl ?_
    refine wpR_gskip (b := false) (t := 14) rfl rfl rfl rfl ?_
    refine wpR_gskip (b := false) (t := 14) rfl rfl rfl rfl ?_
    refine wpR_gskip (b := false) (t := 14) rfl rfl rfl rfl ?_
    refine wpR_gskip (b := false) (t := 14) rfl rfl rfl rfl ?_
    refine wpR_v (OpV_pickF rfl rfl) rfl ?_
    refine wpR_v (OpV_move rfl) rfl ?_
    refine wpR_gskip (b := false) (t := 23) rfl rfl rfl rfl ?_
    refine wpR_gskip (b := false) (t := 23) rfl rfl rfl rfl ?_
    refine wpR_gskip (b := false) (t := 23) rfl rfl rfl rfl ?_
    refine wpR_gskip (b := false) (t := 23) rfl rfl rfl rfl ?_
    refine wpR_gskip (b := false) (t := 23) rfl rfl rfl rfl ?_
    refine wpR_gskip (b := false) (t := 23) rfl rfl rfl rfl ?_
    refine wpR_gskip (b := false) (t := 23) rfl rfl rfl rfl ?_
    refine wpR_gskip (b := false) (t := 23) rfl rfl rfl rfl ?_
    refine wpR_v (OpV_pickF rfl rfl) rfl ?_
    refine wpR_v (OpV_assign rfl) rfl ?_
    refine wpR_nil ?_
    refine QE_then_n ?_
    refine wpC_ret ?_
    cases h
    exact QE_ret1 rfl rfl ⟨rfl, hS⟩

theorem c_law30_CborPrints (w0 : World) (a0 : List (Int × UInt64 × (List UInt8) × Int)) (va0 : Value) (hT : TB [] w0) (ha0 : RP [] w0 (eP eI (eP e64 (eP eS eI))) va0 a0) (r : Bool)
    (h : F.law30_CborPrints a0 = some r) : Calls Tryd.prog 3 #[va0] w0 (Ret fun v w => v = vB r ∧ St [] w0 w []) := by
  refine calls_at 132 Tryd.func3 rfl rfl rfl ?_
  have hS := St.start w0
  refine wpC_le [(0, va0)] ⟨rfl, trivial⟩ ?_
  unfold F.law30_CborPrints at h
  refine wpC_seq ?_
  refine wpC_region ?_
  refine wpR_v (OpV_assign rfl) rfl ?_
  refine wpR_nil ?_
  refine QE_then_n ?_
  refine wpC_seq ?_
  refine wpC_seq ?_
  refine wpC_region ?_
  refine wpR_v (OpV_move rfl) rfl ?_
  obtain ⟨x_1, hx_1, h⟩ := obind_some h
  refine wpR_call (by kernel_rfl) rfl (c_ref30_Beyond _ a0 va0  (ha0.now hS.fr).rp _ hx_1) rfl ?_
  rintro _ w ⟨rfl, hS1⟩
  have hS := hS.call hS1
  simp only [List.cons_append, List.nil_append] at hS
  refine wpR_nil ?_
  refine QE_then_n ?_
  refine wpC_cond rfl (fun hb_69 => ?_) (fun hb_69 => ?_)
  · have h := if_t h hb_69
    refine wpC_seq ?_
    refine wpC_region ?_
    refine wpR_v (OpV_assign rfl) rfl ?_
    refine wpR_nil ?_
    refine QE_then_n ?_
    refine wpC_ret ?_
    refine QE_then_r ?_
    cases h
    exact QE_ret1 rfl rfl ⟨rfl, hS⟩
  · have h := if_f h hb_69
    refine wpC_skip ?_
    refine QE_then_n ?_
    refine wpC_seq ?_
    refine wpC_region ?_
    refine wpR_v (OpV_move rfl) rfl ?_
    obtain ⟨x_2, hx_2, h⟩ := obind_some h
    refine wpR_call (by kernel_rfl) rfl (c_law30_wide _ a0 va0  (ha0.now hS.fr).rp _ hx_2) rfl ?_
    rintro _ w ⟨v_3, rfl, hk_5, hS1⟩
    have hS := hS.call hS1
    simp only [List.cons_append, List.nil_append] at hS
    refine wpR_v (OpV_assign rfl) rfl ?_
    refine wpR_nil ?_
    refine QE_then_n ?_
    refine wpC_seq ?_
    refine wpC_region ?_
    refine wpR_v (OpV_move rfl) rfl ?_
    obtain ⟨x_6, hx_6, h⟩ := obind_some h
    refine wpR_call (by kernel_rfl) rfl (c_cbor_Print _ (x_2.1.take x_2.2) (slV v_3 (eP eI (eP e64 (eP eS eI))).sz 0 x_2.2)  (hT.now hS.fr) ((hS.ro 0 rfl).tk hk_5).rp _ hx_6) rfl ?_
    rintro _ w ⟨v_7, rfl, hS1⟩
    have hS := hS.call hS1
    simp only [List.cons_append, List.nil_append] at hS
    refine wpR_v (OpV_move rfl) rfl ?_
    refine wpR_v (OpV_extract rfl rfl) rfl ?_
    refine wpR_v (OpV_extract rfl rfl) rfl ?_
    refine wpR_v (OpV_assign rfl) rfl ?_
    refine wpR_v (OpV_assign rfl) rfl ?_
    refine wpR_nil ?_
    refine QE_then_n ?_
    refine wpC_seq ?_
    refine wpC_region ?_
    refine wpR_v (OpV_move rfl) rfl ?_
    obtain ⟨x_9, hx_9, h⟩ := obind_some h
    refine wpR_call (by kernel_rfl) rfl (c_cbor_Shaped _ (x_2.1.take x_2.2) (slV v_3 (eP eI (eP e64 (eP eS eI))).sz 0 x_2.2)  (hT.now hS.fr) ((hS.ro 1 rfl).tk hk_5).rp _ hx_9) rfl ?_
    rintro _ w ⟨rfl, hS1⟩
    have hS := hS.call hS1
    simp only [List.cons_append, List.nil_append] at hS
    refine wpR_v (OpV_assign rfl) rfl ?_
    refine wpR_nil ?_
    refine QE_then_n ?_
    refine wpC_seq ?_
    refine wpC_region ?_
    refine wpR_v (OpV_move rfl) rfl ?_
    obtain ⟨x_10, hx_10, h⟩ := obind_some h
    refine wpR_call (by kernel_rfl) rfl (c_ref30_Print _ a0 va0  (ha0.now hS.fr).rp _ hx_10) rfl ?_
    rintro _ w ⟨v_11, rfl, hS1⟩
    have hS := hS.call hS1
    simp only [List.cons_append, List.nil_append] at hS
    refine wpR_v (OpV_move rfl) rfl ?_
    refine wpR_v (OpV_extract rfl rfl) rfl ?_
    refine wpR_v (OpV_extract rfl rfl) rfl ?_
    refine wpR_v (OpV_assign rfl) rfl ?_
    refine wpR_v (OpV_assign rfl) rfl ?_
    refine wpR_nil ?_
    refine QE_then_n ?_
    refine wpC_seq ?_
    refine seq_join (r := r) (fun (g : Bool) L w => L = [(3, slV v_3 (eP eI (eP e64 (eP eS eI))).sz 0 x_2.2), (47, vB g)] ∧ St [] w0 w [own (eP eI (eP e64 (eP eS eI))) v_3 x_2.1]) (F.law30_CborPrints_K1 x_2) ?_ ?_
    · rintro x_19 L w hJ h
      try dsimp only at hJ
      obtain ⟨rfl, hS⟩ := hJ
      unfold F.law30_CborPrints_K1 at h
      refine wpC_cond rfl (fun hb_68 => ?_) (fun hb_68 => ?_)
      · have h := if_t h hb_68
        refine wpC_seq ?_
        refine wpC_region ?_
        refine wpR_v (OpV_assign rfl) rfl ?_
        refine wpR_nil ?_
        refine QE_then_n ?_
        refine wpC_ret ?_
        refine QE_then_r ?_
        cases h
        exact QE_ret1 rfl rfl ⟨rfl, hS.pick [] (by decide) rfl⟩
      · have h := if_f h hb_68
        refine wpC_skip ?_
        refine QE_then_n ?_
        refine wpC_seq ?_
        refine wpC_seq ?_
        refine wpC_region ?_
        refine wpR_v (OpV_assign rfl) rfl ?_
        refine wpR_nil ?_
        refine QE_then_n ?_
        refine wpC_block ?_
        refine wpC_le [(3, slV v_3 (eP eI (eP e64 (eP eS eI))).sz 0 x_2.2), (9, vI 0)] ⟨rfl, rfl, trivial⟩ ?_
        refine loop_ind (F.law30_CborPrints_L1 x_2) (fun (s : Int × (List (Int × UInt64 × (List UInt8) × Int))) L w => L = [(3, slV v_3 (eP eI (eP e64 (eP eS eI))).sz 0 x_2.2), (9, vI s.1)] ∧ x_2.2 ≤ s.2.length ∧ St [] w0 w [own (eP eI (eP e64 (eP eS eI))) v_3 s.2]) ?_ (0, x_2.1) ⟨rfl, hk_5, hS⟩ h
        rintro k_67 ⟨x_21, x_22⟩ L w q_26 hI ih_25 h hk_24
        try dsimp only at hI
        obtain ⟨rfl, hK_23, hS⟩ := hI
        unfold F.law30_CborPrints_L1 at h
        refine wpC_seq ?_
        refine wpC_seq ?_
        refine wpC_region ?_
        refine wpR_v (OpV_move rfl) rfl ?_
        refine wpR_v (OpV_move rfl) rfl ?_
        refine wpR_v (OpV_len Tryd.underlying22 rfl ((hS.ro 0 rfl).tk hK_23)) rfl ?_
        refine wpR_v (OpV_bin rfl rfl (b_ilss _ x_21 ((x_22.take x_2.2).length : Int))) rfl ?_
        refine wpR_nil ?_
        refine QE_then_n ?_
        refine wpC_cond rfl (fun hb_66 => ?_) (fun hb_66 => ?_)
        · have h := if_t h hb_66
          refine wpC_skip ?_
          refine QE_then_n ?_
          refine seq_join (r := q_26) (fun (g : (List (Int × UInt64 × (List UInt8) × Int))) L w => L = [(3, slV v_3 (eP eI (eP e64 (eP eS eI))).sz 0 x_2.2), (9, vI x_21)] ∧ x_2.2 ≤ g.length ∧ St [] w0 w [own (eP eI (eP e64 (eP eS eI))) v_3 g]) (F.law30_CborPrints_K2 x_21) ?_ ?_
          · rintro x_32 L w hJ h
            try dsimp only at hJ
            obtain ⟨rfl, hK_33, hS⟩ := hJ
            unfold F.law30_CborPrints_K2 at h
            refine wpC_region ?_
            refine wpR_v (OpV_move rfl) rfl ?_
            refine wpR_v (OpV_bin rfl rfl (b_iadd _ x_21 1)) rfl ?_
            refine wpR_v (OpV_assign rfl) rfl ?_
            refine wpR_nil ?_
            exact QE_rnd (wpN_le _ (by exact ⟨rfl, rfl, trivial⟩) (ih_25 (wI (x_21 + 1), x_32) _ _ ⟨rfl, hK_33, hS⟩ (oinl_some h hk_24)))
          · intro hK_34
            refine wpC_block ?_
            refine wpC_seq ?_
            refine wpC_region ?_
            refine wpR_v (OpV_move rfl) rfl ?_
            refine wpR_v (OpV_move rfl) rfl ?_
            obtain ⟨x_27, hx_27, h⟩ := obind_some h
            refine wpR_v (G_ix_room Tryd.underlying22 ti33 rfl rfl (hS.ro 0 rfl) hK_23 hx_27) rfl ?_
            refine wpR_v (OpV_fieldE (k := 0) Tryd.underlying33 rfl rfl nz3 rfl) rfl ?_
            refine wpR_v (G_loadF Tryd.underlying3 rfl rfl (hS.ro 0 rfl) (getO_take hx_27) rfl rfl) rfl ?_
            refine wpR_v (OpV_bin rfl rfl (b_ilss _ x_27.1 2)) rfl ?_
            refine wpR_nil ?_
            refine QE_then_n ?_
            refine wpC_cond rfl (fun hb_31 => ?_) (fun hb_31 => ?_)
            · have h := if_t h hb_31
              refine wpC_region ?_
              refine wpR_v (OpV_move rfl) rfl ?_
              refine wpR_v (OpV_move rfl) rfl ?_
              refine wpR_v (OpV_move rfl) rfl ?_
              refine wpR_v (OpV_move rfl) rfl ?_
              obtain ⟨x_28, hx_28, h⟩ := obind_some h
              refine wpR_v (G_ix_room Tryd.underlying22 ti33 rfl rfl (hS.ro 0 rfl) hK_23 hx_28) rfl ?_
              refine wpR_v (OpV_fieldE (k := 1) Tryd.underlying33 rfl rfl nz31 rfl) rfl ?_
              refine wpR_v (G_loadF Tryd.underlying31 rfl rfl (hS.ro 0 rfl) (getO_take hx_28) rfl rfl) rfl ?_
              refine wpR_v (OpV_bin rfl rfl (b_xor64 _ x_28.2.1 1)) rfl ?_
              obtain ⟨x_29, hx_29, h⟩ := obind_some h
              refine wpR_v (G_ix_room Tryd.underlying22 ti33 rfl rfl (hS.ro 0 rfl) hK_23 hx_29) rfl ?_
              refine wpR_v (OpV_fieldE (k := 1) Tryd.underlying33 rfl rfl nz31 rfl) rfl ?_
              refine wpR_y (OpY_storeF (t := (x_29.1, x_28.2.1 ^^^ 1, x_29.2.2.1, x_29.2.2.2)) (us := [v64 (x_28.2.1 ^^^ 1)]) sz31 rfl rfl rfl hS (i := 0) rfl (getO_take hx_29) rfl rfl) ?_
              intro w hS
              obtain ⟨x_30, hx_30, h⟩ := olet_some h
              rw [hx_30] at hS
              refine wpR_nil ?_
              refine QE_blk_n ?_
              refine QE_then_n ?_
              exact wpC_le _ (by exact ⟨rfl, rfl, trivial⟩) (hK_34 x_30 _ _ ⟨rfl, (by rw [← hx_30, List.length_set]; exact hK_23), hS⟩ h)
            · have h := if_f h hb_31
              refine wpC_skip ?_
              refine QE_blk_n ?_
              refine QE_then_n ?_
              exact wpC_le _ (by exact ⟨rfl, rfl, trivial⟩) (hK_34 x_22 _ _ ⟨rfl, hK_23, hS⟩ h)
        · have h := if_f h hb_66
          refine wpC_exit ?_
          refine QE_then_x ?_
          refine QE_then_x ?_
          have h := oinr_some h hk_24
          refine QE_blk_x ?_
          refine QE_then_n ?_
          refine wpC_seq ?_
          refine wpC_region ?_
          refine wpR_v (OpV_move rfl) rfl ?_
          obtain ⟨x_35, hx_35, h⟩ := obind_some h
          refine wpR_call (by kernel_rfl) rfl (c_ref30_Print _ (x_22.take x_2.2) (slV v_3 (eP eI (eP e64 (eP eS eI))).sz 0 x_2.2)  ((hS.ro 0 rfl).tk hK_23).rp _ hx_35) rfl ?_
          rintro _ w ⟨v_36, rfl, hS1⟩
          have hS := hS.call hS1
          simp only [List.cons_append, List.nil_append] at hS
          refine wpR_v (OpV_move rfl) rfl ?_
          refine wpR_v (OpV_extract rfl rfl) rfl ?_
          refine wpR_v (OpV_extract rfl rfl) rfl ?_
          refine wpR_v (OpV_assign rfl) rfl ?_
          refine wpR_v (OpV_assign rfl) rfl ?_
          refine wpR_nil ?_
          refine QE_then_n ?_
          refine wpC_seq ?_
          refine wpC_region ?_
          refine wpR_v (OpV_move rfl) rfl ?_
          obtain ⟨x_38, hx_38, h⟩ := obind_some h
          refine wpR_call (by kernel_rfl) rfl (c_ref30_Shaped _ (x_22.take x_2.2) (slV v_3 (eP eI (eP e64 (eP eS eI))).sz 0 x_2.2)  ((hS.ro 1 rfl).tk hK_23).rp _ hx_38) rfl ?_
          rintro _ w ⟨rfl, hS1⟩
          have hS := hS.call hS1
          simp only [List.cons_append, List.nil_append] at hS
          refine wpR_v (OpV_assign rfl) rfl ?_
          refine wpR_nil ?_
          refine QE_then_n ?_
          refine wpC_seq ?_
          refine wpC_region ?_
          refine wpR_v (OpV_move rfl) rfl ?_
          obtain ⟨x_39, hx_39, h⟩ := obind_some h
          refine wpR_call (by kernel_rfl) rfl (c_cbor_Print _ (x_22.take x_2.2) (slV v_3 (eP eI (eP e64 (eP eS eI))).sz 0 x_2.2)  (hT.now hS.fr) ((hS.ro 1 rfl).tk hK_23).rp _ hx_39) rfl ?_
          rintro _ w ⟨v_40, rfl, hS1⟩
          have hS := hS.call hS1
          simp only [List.cons_append, List.nil_append] at hS
          refine wpR_v (OpV_move rfl) rfl ?_
          refine wpR_v (OpV_extract rfl rfl) rfl ?_
          refine wpR_v (OpV_extract rfl rfl) rfl ?_
          refine wpR_v (OpV_assign rfl) rfl ?_
          refine wpR_v (OpV_assign rfl) rfl ?_
          refine wpR_nil ?_
          refine QE_then_n ?_
          refine wpC_seq ?_
          refine seq_join (r := r) (fun (g : Bool) L w => L = [(3, slV v_3 (eP eI (eP e64 (eP eS eI))).sz 0 x_2.2), (96, vB g)] ∧ St [] w0 w [own (eP eI (eP e64 (eP eS eI))) v_3 x_22]) (F.law30_CborPrints_K3 x_2 x_22) ?_ ?_
          · rintro x_46 L w hJ h
            try dsimp only at hJ
            obtain ⟨rfl, hS⟩ := hJ
            unfold F.law30_CborPrints_K3 at h
            refine wpC_cond rfl (fun hb_65 => ?_) (fun hb_65 => ?_)
            · have h := if_t h hb_65
              refine wpC_seq ?_
              refine wpC_region ?_
              refine wpR_v (OpV_assign rfl) rfl ?_
              refine wpR_nil ?_
              refine QE_then_n ?_
              refine wpC_ret ?_
              refine QE_then_r ?_
              cases h
              exact QE_ret1 rfl rfl ⟨rfl, hS.pick [] (by decide) rfl⟩
            · have h := if_f h hb_65
              refine wpC_skip ?_
              refine QE_then_n ?_
              refine seq_join (r := r) (fun (g : (List (Int × UInt64 × (List UInt8) × Int))) L w => L = [(3, slV v_3 (eP eI (eP e64 (eP eS eI))).sz 0 x_2.2)] ∧ x_2.2 ≤ g.length ∧ St [] w0 w [own (eP eI (eP e64 (eP eS eI))) v_3 g]) (F.law30_CborPrints_K4 x_2) ?_ ?_
              · rintro x_51 L w hJ h
                try dsimp only at hJ
                obtain ⟨rfl, hK_52, hS⟩ := hJ
                unfold F.law30_CborPrints_K4 at h
                refine wpC_seq ?_
                refine wpC_region ?_
                refine wpR_v (OpV_move rfl) rfl ?_
                obtain ⟨x_54, hx_54, h⟩ := obind_some h
                refine wpR_call (by kernel_rfl) rfl (c_ref30_Print _ (x_51.take x_2.2) (slV v_3 (eP eI (eP e64 (eP eS eI))).sz 0 x_2.2)  ((hS.ro 0 rfl).tk hK_52).rp _ hx_54) rfl ?_
                rintro _ w ⟨v_55, rfl, hS1⟩
                have hS := hS.call hS1
                simp only [List.cons_append, List.nil_append] at hS
                refine wpR_v (OpV_move rfl) rfl ?_
                refine wpR_v (OpV_extract rfl rfl) rfl ?_
                refine wpR_v (OpV_extract rfl rfl) rfl ?_
                refine wpR_v (OpV_assign rfl) rfl ?_
                refine wpR_v (OpV_assign rfl) rfl ?_
                refine wpR_nil ?_
                refine QE_then_n ?_
                refine wpC_seq ?_
                refine wpC_region ?_
                refine wpR_v (OpV_move rfl) rfl ?_
                obtain ⟨x_57, hx_57, h⟩ := obind_some h
                refine wpR_call (by kernel_rfl) rfl (c_ref30_Shaped _ (x_51.take x_2.2) (slV v_3 (eP eI (eP e64 (eP eS eI))).sz 0 x_2.2)  ((hS.ro 1 rfl).tk hK_52).rp _ hx_57) rfl ?_
                rintro _ w ⟨rfl, hS1⟩
                have hS := hS.call hS1
                simp only [List.cons_append, List.nil_append] at hS
                refine wpR_v (OpV_assign rfl) rfl ?_
                refine wpR_nil ?_
                refine QE_then_n ?_
                refine wpC_seq ?_
                refine wpC_region ?_
                refine wpR_v (OpV_move rfl) rfl ?_
                obtain ⟨x_58, hx_58, h⟩ := obind_some h
                refine wpR_call (by kernel_rfl) rfl (c_cbor_Print _ (x_51.take x_2.2) (slV v_3 (eP eI (eP e64 (eP eS eI))).sz 0 x_2.2)  (hT.now hS.fr) ((hS.ro 1 rfl).tk hK_52).rp _ hx_58) rfl ?_
                rintro _ w ⟨v_59, rfl, hS1⟩
                have hS := hS.call hS1
                simp only [List.cons_append, List.nil_append] at hS
                refine wpR_v (OpV_move rfl) rfl ?_
                refine wpR_v (OpV_extract rfl rfl) rfl ?_
                refine wpR_v (OpV_extract rfl rfl) rfl ?_
                refine wpR_v (OpV_assign rfl) rfl ?_
                refine wpR_v (OpV_assign rfl) rfl ?_
                refine wpR_nil ?_
                refine QE_then_n ?_
                refine wpC_seq ?_
                refine wpC_region ?_
                refine wpR_v (OpV_move rfl) rfl ?_
                refine wpR_v (OpV_move rfl) rfl ?_
                refine wpR_v (OpV_bin rfl rfl (b_ieql _ x_58.2 x_54.2)) rfl ?_
                refine wpR_v (OpV_move rfl) rfl ?_
                cases hb_61 : (x_58.2 == x_54.2)
                case true =>
                  have h := if_t h hb_61
                  try simp only [hb_61]
                  refine wpR_gv (t := 121) rfl rfl (OpV_move rfl) rfl ?_
                  refine wpR_gv (t := 121) rfl rfl (OpV_move rfl) rfl ?_
                  obtain ⟨x_62, hx_62, h⟩ := obind_some h
                  refine wpR_gcall (t := 121) rfl rfl (by kernel_rfl) rfl (c_law30_sameBytes _ x_58.1 x_54.1 v_59 v_55  (hS.ro 0 rfl).rp (hS.rro 1 rfl).rp _ hx_62) rfl ?_
                  rintro _ w ⟨rfl, hS1⟩
                  have hS := hS.call hS1
                  simp only [List.cons_append, List.nil_append] at hS
                  refine wpR_v (OpV_pickT rfl rfl) rfl ?_
                  refine wpR_v (OpV_move rfl) rfl ?_
                  cases hb_63 : x_62
                  case true =>
                    have h := if_t h hb_63
                    try simp only [hb_63]
                    refine wpR_gv (t := 126) rfl rfl (OpV_move rfl) rfl ?_
                    obtain ⟨x_64, hx_64, h⟩ := obind_some h
                    refine wpR_gcall (t := 126) rfl rfl (by kernel_rfl) rfl (c_cbor_Shaped _ (x_51.take x_2.2) (slV v_3 (eP eI (eP e64 (eP eS eI))).sz 0 x_2.2)  (hT.now hS.fr) ((hS.ro 2 rfl).tk hK_52).rp _ hx_64) rfl ?_
                    rintro _ w ⟨rfl, hS1⟩
                    have hS := hS.call hS1
                    simp only [List.cons_append, List.nil_append] at hS
                    refine wpR_gv (t := 126) rfl rfl (OpV_move rfl) rfl ?_
                    refine wpR_gv (t := 126) rfl rfl (OpV_bin rfl rfl (b_beql _ x_64 x_57 Tryd.underlying4 rfl)) rfl ?_
                    refine wpR_v (OpV_pickT rfl rfl) rfl ?_
                    refine wpR_v (OpV_assign rfl) rfl ?_
                    refine wpR_nil ?_
                    refine QE_then_n ?_
                    refine wpC_ret ?_
                    cases h
                    exact QE_ret1 rfl rfl ⟨rfl, hS.pick [] (by decide) rfl⟩
                  case false =>
                    have h := if_f h hb_63
                    try simp only [hb_63]
                    refine wpR_gskip (b := false) (t := 126) rfl rfl rfl rfl ?_
                    refine wpR_gskip (b := false) (t := 126) rfl rfl rfl rfl ?_
                    refine wpR_gskip (b := false) (t := 126) rfl rfl rfl rfl ?_
                    refine wpR_gskip (b := false) (t := 126) rfl rfl rfl rfl ?_
                    refine wpR_v (OpV_pickF rfl rfl) rfl ?_
                    refine wpR_v (OpV_assign rfl) rfl ?_
                    refine wpR_nil ?_
                    refine QE_then_n ?_
                    refine wpC_ret ?_
                    cases h
                    exact QE_ret1 rfl rfl ⟨rfl, hS.pick [] (by decide) rfl⟩
                case false =>
                  have h := if_f h hb_61
                  try simp only [hb_61]
                  refine wpR_gskip (b := false) (t := 121) rfl rfl rfl rfl ?_
                  refine wpR_gskip (b := false) (t := 121) rfl rfl rfl rfl ?_
                  refine wpR_gskip (b := false) (t := 121) rfl rfl rfl rfl ?_
                  refine wpR_v (OpV_pickF rfl rfl) rfl ?_
                  refine wpR_v (OpV_move rfl) rfl ?_
                  refine wpR_gskip (b := false) (t := 126) rfl rfl rfl rfl ?_
                  refine wpR_gskip (b := false) (t := 126) rfl rfl rfl rfl ?_
                  refine wpR_gskip (b := false) (t := 126) rfl rfl rfl rfl ?_
                  refine wpR_gskip (b := false) (t := 126) rfl rfl rfl rfl ?_
                  refine wpR_v (OpV_pickF rfl rfl) rfl ?_
                  refine wpR_v (OpV_assign rfl) rfl ?_
                  refine wpR_nil ?_
                  refine QE_then_n ?_
                  refine wpC_ret ?_
                  cases h
                  exact QE_ret1 rfl rfl ⟨rfl, hS.pick [] (by decide) rfl⟩
              · intro hK_53
                refine wpC_seq ?_
                refine wpC_region ?_
                refine wpR_v (OpV_move rfl) rfl ?_
                refine wpR_v (OpV_len Tryd.underlying22 rfl ((hS.ro 0 rfl).tk hK_23)) rfl ?_
                refine wpR_v (OpV_bin rfl rfl (b_igtr _ ((x_22.take x_2.2).length : Int) 0)) rfl ?_
                refine wpR_nil ?_
                refine QE_then_n ?_
                refine wpC_cond rfl (fun hb_50 => ?_) (fun hb_50 => ?_)
                · have h := if_t h hb_50
                  refine wpC_region ?_
                  refine wpR_v (OpV_move rfl) rfl ?_
                  refine wpR_v (OpV_move rfl) rfl ?_
                  refine wpR_v (OpV_len Tryd.underlying22 rfl ((hS.ro 0 rfl).tk hK_23)) rfl ?_
                  refine wpR_v (OpV_bin rfl rfl (b_isub _ ((x_22.take x_2.2).length : Int) 1)) rfl ?_
                  obtain ⟨x_48, hx_48, h⟩ := obind_some h
                  refine wpR_v (G_ix_room Tryd.underlying22 ti33 rfl rfl (hS.ro 0 rfl) hK_23 hx_48) rfl ?_
                  refine wpR_v (OpV_fieldE (k := 0) Tryd.underlying33 rfl rfl nz3 rfl) rfl ?_
                  refine wpR_y (OpY_storeF (t := (8, x_48.2.1, x_48.2.2.1, x_48.2.2.2)) (us := [vI 8]) sz3 rfl rfl rfl hS (i := 0) rfl (getO_take hx_48) rfl rfl) ?_
                  intro w hS
                  obtain ⟨x_49, hx_49, h⟩ := olet_some h
                  rw [hx_49] at hS
                  refine wpR_nil ?_
                  refine QE_then_n ?_
                  exact wpC_le _ (by exact ⟨rfl, trivial⟩) (hK_53 x_49 _ _ ⟨rfl, (by rw [← hx_49, List.length_set]; exact hK_23), hS⟩ h)
                · have h := if_f h hb_50
                  refine wpC_skip ?_
                  refine QE_then_n ?_
                  exact wpC_le _ (by exact ⟨rfl, trivial⟩) (hK_53 x_22 _ _ ⟨rfl, hK_23, hS⟩ h)
          · intro hK_47
            refine wpC_region ?_
            refine wpR_v (OpV_move rfl) rfl ?_
            refine wpR_v (OpV_move rfl) rfl ?_
            refine wpR_v (OpV_bin rfl rfl (b_ineq _ x_39.2 x_35.2)) rfl ?_
            refine wpR_v (OpV_move rfl) rfl ?_
            cases hb_42 : (x_39.2 != x_35.2)
            case true =>
              have h := if_t h hb_42
              try simp only [hb_42]
              refine wpR_gskip (b := true) (t := 85) rfl rfl rfl rfl ?_
              refine wpR_gskip (b := true) (t := 85) rfl rfl rfl rfl ?_
              refine wpR_gskip (b := true) (t := 85) rfl rfl rfl rfl ?_
              refine wpR_gskip (b := true) (t := 85) rfl rfl rfl rfl ?_
              refine wpR_v (OpV_pickT rfl rfl) rfl ?_
              refine wpR_v (OpV_move rfl) rfl ?_
              refine wpR_gskip (b := true) (t := 91) rfl rfl rfl rfl ?_
              refine wpR_gskip (b := true) (t := 91) rfl rfl rfl rfl ?_
              refine wpR_gskip (b := true) (t := 91) rfl rfl rfl rfl ?_
              refine wpR_gskip (b := true) (t := 91) rfl rfl rfl rfl ?_
              refine wpR_v (OpV_pickT rfl rfl) rfl ?_
              refine wpR_nil ?_
              refine QE_then_n ?_
              exact wpC_le _ (by exact ⟨rfl, rfl, trivial⟩) (hK_47 true _ _ ⟨rfl, (hS.pick [2] (by decide) rfl)⟩ h)
            case false =>
              have h := if_f h hb_42
              try simp only [hb_42]
              refine wpR_gv (t := 85) rfl rfl (OpV_move rfl) rfl ?_
              refine wpR_gv (t := 85) rfl rfl (OpV_move rfl) rfl ?_
              obtain ⟨x_43, hx_43, h⟩ := obind_some h
              refine wpR_gcall (t := 85) rfl rfl (by kernel_rfl) rfl (c_law30_sameBytes _ x_39.1 x_35.1 v_40 v_36  (hS.ro 0 rfl).rp (hS.rro 1 rfl).rp _ hx_43) rfl ?_
              rintro _ w ⟨rfl, hS1⟩
              have hS := hS.call hS1
              simp only [List.cons_append, List.nil_append] at hS
              refine wpR_gv (t := 85) rfl rfl (OpV_un rfl (u_not x_43)) rfl ?_
              refine wpR_v (OpV_pickF rfl rfl) rfl ?_
              refine wpR_v (OpV_move rfl) rfl ?_
              cases hb_44 : (!x_43)
              case true =>
                have h := if_t h hb_44
                try simp only [hb_44]
                refine wpR_gskip (b := true) (t := 91) rfl rfl rfl rfl ?_
                refine wpR_gskip (b := true) (t := 91) rfl rfl rfl rfl ?_
                refine wpR_gskip (b := true) (t := 91) rfl rfl rfl rfl ?_
                refine wpR_gskip (b := true) (t := 91) rfl rfl rfl rfl ?_
                refine wpR_v (OpV_pickT rfl rfl) rfl ?_
                refine wpR_nil ?_
                refine QE_then_n ?_
                exact wpC_le _ (by exact ⟨rfl, rfl, trivial⟩) (hK_47 true _ _ ⟨rfl, (hS.pick [2] (by decide) rfl)⟩ h)
              case false =>
                have h := if_f h hb_44
                try simp only [hb_44]
                refine wpR_gv (t := 91) rfl rfl (OpV_move rfl) rfl ?_
                obtain ⟨x_45, hx_45, h⟩ := obind_some h
                refine wpR_gcall (t := 91) rfl rfl (by kernel_rfl) rfl (c_cbor_Shaped _ (x_22.take x_2.2) (slV v_3 (eP eI (eP e64 (eP eS eI))).sz 0 x_2.2)  (hT.now hS.fr) ((hS.ro 2 rfl).tk hK_23).rp _ hx_45) rfl ?_
                rintro _ w ⟨rfl, hS1⟩
                have hS := hS.call hS1
                simp only [List.cons_append, List.nil_append] at hS
                refine wpR_gv (t := 91) rfl rfl (OpV_move rfl) rfl ?_
                refine wpR_gv (t := 91) rfl rfl (OpV_bin rfl rfl (b_bneq _ x_45 x_38 Tryd.underlying4 rfl)) rfl ?_
                refine wpR_v (OpV_pickF rfl rfl) rfl ?_
                refine wpR_nil ?_
                refine QE_then_n ?_
                exact wpC_le _ (by exact ⟨rfl, rfl, trivial⟩) (hK_47 (x_45 != x_38) _ _ ⟨rfl, (hS.pick [2] (by decide) rfl)⟩ h)
    · intro hK_20
      refine wpC_region ?_
      refine wpR_v (OpV_move rfl) rfl ?_
      refine wpR_v (OpV_move rfl) rfl ?_
      refine wpR_v (OpV_bin rfl rfl (b_ineq _ x_6.2 x_10.2)) rfl ?_
      refine wpR_v (OpV_move rfl) rfl ?_
      cases hb_13 : (x_6.2 != x_10.2)
      case true =>
        have h := if_t h hb_13
        try simp only [hb_13]
        refine wpR_gskip (b := true) (t := 30) rfl rfl rfl rfl ?_
        refine wpR_gskip (b := true) (t := 30) rfl rfl rfl rfl ?_
        refine wpR_gskip (b := true) (t := 30) rfl rfl rfl rfl ?_
        refine wpR_gskip (b := true) (t := 30) rfl rfl rfl rfl ?_
        refine wpR_v (OpV_pickT rfl rfl) rfl ?_
        refine wpR_v (OpV_move rfl) rfl ?_
        refine wpR_gskip (b := true) (t := 36) rfl rfl rfl rfl ?_
        refine wpR_gskip (b := true) (t := 36) rfl rfl rfl rfl ?_
        refine wpR_gskip (b := true) (t := 36) rfl rfl rfl rfl ?_
        refine wpR_gskip (b := true) (t := 36) rfl rfl rfl rfl ?_
        refine wpR_v (OpV_pickT rfl rfl) rfl ?_
        refine wpR_v (OpV_move rfl) rfl ?_
        refine wpR_gskip (b := true) (t := 42) rfl rfl rfl rfl ?_
        refine wpR_gskip (b := true) (t := 42) rfl rfl rfl rfl ?_
        refine wpR_gskip (b := true) (t := 42) rfl rfl rfl rfl ?_
        refine wpR_gskip (b := true) (t := 42) rfl rfl rfl rfl ?_
        refine wpR_v (OpV_pickT rfl rfl) rfl ?_
        refine wpR_nil ?_
        refine QE_then_n ?_
        exact wpC_le _ (by exact ⟨rfl, rfl, trivial⟩) (hK_20 true _ _ ⟨rfl, (hS.pick [2] (by decide) rfl)⟩ h)
      case false =>
        have h := if_f h hb_13
        try simp only [hb_13]
        refine wpR_gv (t := 30) rfl rfl (OpV_move rfl) rfl ?_
        refine wpR_gv (t := 30) rfl rfl (OpV_move rfl) rfl ?_
        obtain ⟨x_14, hx_14, h⟩ := obind_some h
        refine wpR_gcall (t := 30) rfl rfl (by kernel_rfl) rfl (c_law30_sameBytes _ x_6.1 x_10.1 v_7 v_11  (hS.ro 1 rfl).rp (hS.rro 0 rfl).rp _ hx_14) rfl ?_
        rintro _ w ⟨rfl, hS1⟩
        have hS := hS.call hS1
        simp only [List.cons_append, List.nil_append] at hS
        refine wpR_gv (t := 30) rfl rfl (OpV_un rfl (u_not x_14)) rfl ?_
        refine wpR_v (OpV_pickF rfl rfl) rfl ?_
        refine wpR_v (OpV_move rfl) rfl ?_
        cases hb_15 : (!x_14)
        case true =>
          have h := if_t h hb_15
          try simp only [hb_15]
          refine wpR_gskip (b := true) (t := 36) rfl rfl rfl rfl ?_
          refine wpR_gskip (b := true) (t := 36) rfl rfl rfl rfl ?_
          refine wpR_gskip (b := true) (t := 36) rfl rfl rfl rfl ?_
          refine wpR_gskip (b := true) (t := 36) rfl rfl rfl rfl ?_
          refine wpR_v (OpV_pickT rfl rfl) rfl ?_
          refine wpR_v (OpV_move rfl) rfl ?_
          refine wpR_gskip (b := true) (t := 42) rfl rfl rfl rfl ?_
          refine wpR_gskip (b := true) (t := 42) rfl rfl rfl rfl ?_
          refine wpR_gskip (b := true) (t := 42) rfl rfl rfl rfl ?_
          refine wpR_gskip (b := true) (t := 42) rfl rfl rfl rfl ?_
          refine wpR_v (OpV_pickT rfl rfl) rfl ?_
          refine wpR_nil ?_
          refine QE_then_n ?_
          exact wpC_le _ (by exact ⟨rfl, rfl, trivial⟩) (hK_20 true _ _ ⟨rfl, (hS.pick [2] (by decide) rfl)⟩ h)
        case false =>
          have h := if_f h hb_15
          try simp only [hb_15]
          refine wpR_gv (t := 36) rfl rfl (OpV_move rfl) rfl ?_
          refine wpR_gv (t := 36) rfl rfl (OpV_move rfl) rfl ?_
          obtain ⟨x_16, hx_16, h⟩ := obind_some h
          refine wpR_gcall (t := 36) rfl rfl (by kernel_rfl) rfl (c_ref30_Shaped _ a0 va0  (ha0.now hS.fr).rp _ hx_16) rfl ?_
          rintro _ w ⟨rfl, hS1⟩
          have hS := hS.call hS1
          simp only [List.cons_append, List.nil_append] at hS
          refine wpR_gv (t := 36) rfl rfl (OpV_bin rfl rfl (b_bneq _ x_9 x_16 Tryd.underlying4 rfl)) rfl ?_
          refine wpR_v (OpV_pickF rfl rfl) rfl ?_
          refine wpR_v (OpV_move rfl) rfl ?_
          cases hb_17 : (x_9 != x_16)
          case true =>
            have h := if_t h hb_17
            try simp only [hb_17]
            refine wpR_gskip (b := true) (t := 42) rfl rfl rfl rfl ?_
            refine wpR_gskip (b := true) (t := 42) rfl rfl rfl rfl ?_
            refine wpR_gskip (b := true) (t := 42) rfl rfl rfl rfl ?_
            refine wpR_gskip (b := true) (t := 42) rfl rfl rfl rfl ?_
            refine wpR_v (OpV_pickT rfl rfl) rfl ?_
            refine wpR_nil ?_
            refine QE_then_n ?_
            exact wpC_le _ (by exact ⟨rfl, rfl, trivial⟩) (hK_20 true _ _ ⟨rfl, (hS.pick [2] (by decide) rfl)⟩ h)
          case false =>
            have h := if_f h hb_17
            try simp only [hb_17]
            refine wpR_gv (t := 42) rfl rfl (OpV_move rfl) rfl ?_
            refine wpR_gv (t := 42) rfl rfl (OpV_move rfl) rfl ?_
            obtain ⟨x_18, hx_18, h⟩ := obind_some h
            refine wpR_gcall (t := 42) rfl rfl (by kernel_rfl) rfl (c_law30_left _ x_2.1 x_2.2 a0 v_3 va0  (hS.ro 2 rfl).rp hk_5 (ha0.now hS.fr).rp _ hx_18) rfl ?_
            rintro _ w ⟨rfl, hS1⟩
            have hS := hS.call hS1
            simp only [List.cons_append, List.nil_append] at hS
            refine wpR_gv (t := 42) rfl rfl (OpV_un rfl (u_not x_18)) rfl ?_
            refine wpR_v (OpV_pickF rfl rfl) rfl ?_
            refine wpR_nil ?_
            refine QE_then_n ?_
            exact wpC_le _ (by exact ⟨rfl, rfl, trivial⟩) (hK_20 (!x_18) _ _ ⟨rfl, (hS.pick [2] (by decide) rfl)⟩ h)

theorem c_law30_CborPlaces (w0 : World) (a0 : List (Int × UInt64 × (List UInt8) × Int)) (a1 : Int) (a2 : List (Int × UInt64 × (List UInt8) × Int)) (va0 : Value) (va2 : Value) (hT : TB [] w0) (ha0 : RP [] w0 (eP eI (eP e64 (eP eS eI))) va0 a0) (ha2 : RP [] w0 (eP eI (eP e64 (eP eS eI))) va2 a2) (r : Bool)
    (h : F.law30_CborPlaces a0 a1 a2 = some r) : Calls Tryd.prog 5 #[va0, vI a1, va2] w0 (Ret fun v w => v = vB r ∧ St [] w0 w []) := by
  refine calls_at 156 Tryd.func5 rfl rfl rfl ?_
  have hS := St.start w0
  refine wpC_le [(0, va0), (1, vI a1), (2, va2)] ⟨rfl, rfl, rfl, trivial⟩ ?_
  unfold F.law30_CborPlaces at h
  refine wpC_seq ?_
  refine wpC_region ?_
  refine wpR_v (OpV_assign rfl) rfl ?_
  refine wpR_nil ?_
  refine QE_then_n ?_
  refine wpC_seq ?_
  refine seq_join (r := r) (fun (g : Bool) L w => L = [(0, va0), (1, vI a1), (2, va2), (20, vB g)] ∧ St [] w0 w []) (F.law30_CborPlaces_K1 a0 a1 a2) ?_ ?_
  · rintro x_4 L w hJ h
    try dsimp only at hJ
    obtain ⟨rfl, hS⟩ := hJ
    unfold F.law30_CborPlaces_K1 at h
    refine wpC_cond rfl (fun hb_76 => ?_) (fun hb_76 => ?_)
    · have h := if_t h hb_76
      refine wpC_seq ?_
      refine wpC_region ?_
      refine wpR_v (OpV_assign rfl) rfl ?_
      refine wpR_nil ?_
      refine QE_then_n ?_
      refine wpC_ret ?_
      refine QE_then_r ?_
      cases h
      exact QE_ret1 rfl rfl ⟨rfl, hS⟩
    · have h := if_f h hb_76
      refine wpC_skip ?_
      refine QE_then_n ?_
      refine wpC_seq ?_
      refine wpC_region ?_
      refine wpR_v (OpV_move rfl) rfl ?_
      obtain ⟨x_6, hx_6, h⟩ := obind_some h
      refine wpR_call (by kernel_rfl) rfl (c_law30_wide _ a0 va0  (ha0.now hS.fr).rp _ hx_6) rfl ?_
      rintro _ w ⟨v_7, rfl, hk_9, hS1⟩
      have hS := hS.call hS1
      simp only [List.cons_append, List.nil_append] at hS
      refine wpR_v (OpV_assign rfl) rfl ?_
      refine wpR_nil ?_
      refine QE_then_n ?_
      refine wpC_seq ?_
      refine wpC_region ?_
      refine wpR_v (OpV_move rfl) rfl ?_
      obtain ⟨x_10, hx_10, h⟩ := obind_some h
      refine wpR_call (by kernel_rfl) rfl (c_law30_wide _ a2 va2  (ha2.now hS.fr).rp _ hx_10) rfl ?_
      rintro _ w ⟨v_11, rfl, hk_13, hS1⟩
      have hS := hS.call hS1
      simp only [List.cons_append, List.nil_append] at hS
      refine wpR_v (OpV_assign rfl) rfl ?_
      refine wpR_nil ?_
      refine QE_then_n ?_
      refine wpC_seq ?_
      refine wpC_region ?_
      refine wpR_v (OpV_move rfl) rfl ?_
      refine wpR_v (OpV_move rfl) rfl ?_
      obtain ⟨x_14, hx_14, h⟩ := obind_some h
      refine wpR_call (by kernel_rfl) rfl (c_cbor_Behind _ (x_6.1.take x_6.2) a1 (slV v_7 (eP eI (eP e64 (eP eS eI))).sz 0 x_6.2)  (hT.now hS.fr) ((hS.ro 1 rfl).tk hk_9).rp _ hx_14) rfl ?_
      rintro _ w ⟨rfl, hS1⟩
      have hS := hS.call hS1
      simp only [List.cons_append, List.nil_append] at hS
      refine wpR_v (OpV_assign rfl) rfl ?_
      refine wpR_nil ?_
      refine QE_then_n ?_
      refine wpC_seq ?_
      refine wpC_region ?_
      refine wpR_v (OpV_move rfl) rfl ?_
      refine wpR_v (OpV_move rfl) rfl ?_
      refine wpR_v (OpV_move rfl) rfl ?_
      obtain ⟨x_15, hx_15, h⟩ := obind_some h
      refine wpR_call (by kernel_rfl) rfl (c_cbor_Member _ (x_6.1.take x_6.2) a1 (x_10.1.take x_10.2) (slV v_7 (eP eI (eP e64 (eP eS eI))).sz 0 x_6.2) (slV v_11 (eP eI (eP e64 (eP eS eI))).sz 0 x_10.2)  (hT.now hS.fr) ((hS.ro 1 rfl).tk hk_9).rp ((hS.ro 0 rfl).tk hk_13).rp _ hx_15) rfl ?_
      rintro _ w ⟨rfl, hS1⟩
      have hS := hS.call hS1
      simp only [List.cons_append, List.nil_append] at hS
      refine wpR_v (OpV_assign rfl) rfl ?_
      refine wpR_nil ?_
      refine QE_then_n ?_
      refine wpC_seq ?_
      refine seq_join (r := r) (fun (g : Bool) L w => L = [(0, va0), (1, vI a1), (2, va2), (7, slV v_7 (eP eI (eP e64 (eP eS eI))).sz 0 x_6.2), (8, slV v_11 (eP eI (eP e64 (eP eS eI))).sz 0 x_10.2), (56, vB g)] ∧ St [] w0 w [own (eP eI (eP e64 (eP eS eI))) v_7 x_6.1, own (eP eI (eP e64 (eP eS eI))) v_11 x_10.1]) (F.law30_CborPlaces_K2 x_10 a0 a1 x_6 a2) ?_ ?_
      · rintro x_23 L w hJ h
        try dsimp only at hJ
        obtain ⟨rfl, hS⟩ := hJ
        unfold F.law30_CborPlaces_K2 at h
        refine wpC_cond rfl (fun hb_75 => ?_) (fun hb_75 => ?_)
        · have h := if_t h hb_75
          refine wpC_seq ?_
          refine wpC_region ?_
          refine wpR_v (OpV_assign rfl) rfl ?_
          refine wpR_nil ?_
          refine QE_then_n ?_
          refine wpC_ret ?_
          refine QE_then_r ?_
          cases h
          exact QE_ret1 rfl rfl ⟨rfl, hS.pick [] (by decide) rfl⟩
        · have h := if_f h hb_75
          refine wpC_skip ?_
          refine QE_then_n ?_
          refine wpC_seq ?_
          refine wpC_seq ?_
          refine wpC_region ?_
          refine wpR_v (OpV_assign rfl) rfl ?_
          refine wpR_nil ?_
          refine QE_then_n ?_
          refine wpC_block ?_
          refine wpC_le [(0, va0), (1, vI a1), (2, va2), (7, slV v_7 (eP eI (eP e64 (eP eS eI))).sz 0 x_6.2), (8, slV v_11 (eP eI (eP e64 (eP eS eI))).sz 0 x_10.2), (11, vI 0)] ⟨rfl, rfl, rfl, rfl, rfl, rfl, trivial⟩ ?_
          refine loop_ind (F.law30_CborPlaces_L1 a0 a1 x_6 x_10 a2) (fun (s : Int × (List (Int × UInt64 × (List UInt8) × Int))) L w => L = [(0, va0), (1, vI a1), (2, va2), (7, slV v_7 (eP eI (eP e64 (eP eS eI))).sz 0 x_6.2), (8, slV v_11 (eP eI (eP e64 (eP eS eI))).sz 0 x_10.2), (11, vI s.1)] ∧ x_10.2 ≤ s.2.length ∧ St [] w0 w [own (eP eI (eP e64 (eP eS eI))) v_7 x_6.1, own (eP eI (eP e64 (eP eS eI))) v_11 s.2]) ?_ (0, x_10.1) ⟨rfl, hk_13, hS⟩ h
          rintro k_74 ⟨x_25, x_26⟩ L w q_30 hI ih_29 h hk_28
          try dsimp only at hI
          obtain ⟨rfl, hK_27, hS⟩ := hI
          unfold F.law30_CborPlaces_L1 at h
          refine wpC_seq ?_
          refine wpC_seq ?_
          refine wpC_region ?_
          refine wpR_v (OpV_move rfl) rfl ?_
          refine wpR_v (OpV_move rfl) rfl ?_
          refine wpR_v (OpV_len Tryd.underlying22 rfl ((hS.ro 1 rfl).tk hK_27)) rfl ?_
          refine wpR_v (OpV_bin rfl rfl (b_ilss _ x_25 ((x_26.take x_10.2).length : Int))) rfl ?_
          refine wpR_nil ?_
          refine QE_then_n ?_
          refine wpC_cond rfl (fun hb_73 => ?_) (fun hb_73 => ?_)
          · have h := if_t h hb_73
            refine wpC_skip ?_
            refine QE_then_n ?_
            refine wpC_seq ?_
            refine wpC_block ?_
            refine wpC_region ?_
            refine wpR_v (OpV_move rfl) rfl ?_
            refine wpR_v (OpV_move rfl) rfl ?_
            refine wpR_v (OpV_move rfl) rfl ?_
            refine wpR_v (OpV_move rfl) rfl ?_
            obtain ⟨x_31, hx_31, h⟩ := obind_some h
            refine wpR_v (G_ix_room Tryd.underlying22 ti33 rfl rfl (hS.ro 1 rfl) hK_27 hx_31) rfl ?_
            refine wpR_v (OpV_fieldE (k := 1) Tryd.underlying33 rfl rfl nz31 rfl) rfl ?_
            refine wpR_v (G_loadF Tryd.underlying31 rfl rfl (hS.ro 1 rfl) (getO_take hx_31) rfl rfl) rfl ?_
            refine wpR_v (OpV_bin rfl rfl (b_xor64 _ x_31.2.1 1)) rfl ?_
            obtain ⟨x_32, hx_32, h⟩ := obind_some h
            refine wpR_v (G_ix_room Tryd.underlying22 ti33 rfl rfl (hS.ro 1 rfl) hK_27 hx_32) rfl ?_
            refine wpR_v (OpV_fieldE (k := 1) Tryd.underlying33 rfl rfl nz31 rfl) rfl ?_
            refine wpR_y (OpY_storeF (t := (x_32.1, x_31.2.1 ^^^ 1, x_32.2.2.1, x_32.2.2.2)) (us := [v64 (x_31.2.1 ^^^ 1)]) sz31 rfl rfl rfl hS (i := 1) rfl (getO_take hx_32) rfl rfl) ?_
            intro w hS
            obtain ⟨x_33, hx_33, h⟩ := olet_some h
            rw [hx_33] at hS
            refine wpR_nil ?_
            refine QE_blk_n ?_
            refine QE_then_n ?_
            refine wpC_region ?_
            refine wpR_v (OpV_move rfl) rfl ?_
            refine wpR_v (OpV_bin rfl rfl (b_iadd _ x_25 1)) rfl ?_
            refine wpR_v (OpV_assign rfl) rfl ?_
            refine wpR_nil ?_
            exact QE_rnd (wpN_le _ (by exact ⟨rfl, rfl, rfl, rfl, rfl, rfl, trivial⟩) (ih_29 (wI (x_25 + 1), x_33) _ _ ⟨rfl, (by rw [← hx_33, List.length_set]; exact hK_27), hS⟩ (oinl_some h hk_28)))
          · have h := if_f h hb_73
            refine wpC_exit ?_
            refine QE_then_x ?_
            refine QE_then_x ?_
            have h := oinr_some h hk_28
            refine QE_blk_x ?_
            refine QE_then_n ?_
            refine wpC_seq ?_
            refine wpC_region ?_
            refine wpR_v (OpV_move rfl) rfl ?_
            refine wpR_v (OpV_move rfl) rfl ?_
            refine wpR_v (OpV_move rfl) rfl ?_
            obtain ⟨x_34, hx_34, h⟩ := obind_some h
            refine wpR_call (by kernel_rfl) rfl (c_ref30_Member _ a0 a1 (x_26.take x_10.2) va0 (slV v_11 (eP eI (eP e64 (eP eS eI))).sz 0 x_10.2)  (ha0.now hS.fr).rp ((hS.ro 1 rfl).tk hK_27).rp _ hx_34) rfl ?_
            rintro _ w ⟨rfl, hS1⟩
            have hS := hS.call hS1
            simp only [List.cons_append, List.nil_append] at hS
            refine wpR_v (OpV_assign rfl) rfl ?_
            refine wpR_nil ?_
            refine QE_then_n ?_
            refine wpC_seq ?_
            refine wpC_seq ?_
            refine wpC_region ?_
            refine wpR_v (OpV_move rfl) rfl ?_
            refine wpR_v (OpV_move rfl) rfl ?_
            refine wpR_v (OpV_move rfl) rfl ?_
            obtain ⟨x_35, hx_35, h⟩ := obind_some h
            refine wpR_call (by kernel_rfl) rfl (c_cbor_Member _ (x_6.1.take x_6.2) a1 (x_26.take x_10.2) (slV v_7 (eP eI (eP e64 (eP eS eI))).sz 0 x_6.2) (slV v_11 (eP eI (eP e64 (eP eS eI))).sz 0 x_10.2)  (hT.now hS.fr) ((hS.ro 0 rfl).tk hk_9).rp ((hS.ro 1 rfl).tk hK_27).rp _ hx_35) rfl ?_
            rintro _ w ⟨rfl, hS1⟩
            have hS := hS.call hS1
            simp only [List.cons_append, List.nil_append] at hS
            refine wpR_v (OpV_move rfl) rfl ?_
            refine wpR_v (OpV_bin rfl rfl (b_ineq _ x_35 x_34)) rfl ?_
            refine wpR_nil ?_
            refine QE_then_n ?_
            refine wpC_cond rfl (fun hb_72 => ?_) (fun hb_72 => ?_)
            · have h := if_t h hb_72
              refine wpC_seq ?_
              refine wpC_region ?_
              refine wpR_v (OpV_assign rfl) rfl ?_
              refine wpR_nil ?_
              refine QE_then_n ?_
              refine wpC_ret ?_
              refine QE_then_r ?_
              cases h
              exact QE_ret1 rfl rfl ⟨rfl, hS.pick [] (by decide) rfl⟩
            · have h := if_f h hb_72
              refine wpC_skip ?_
              refine QE_then_n ?_
              refine wpC_seq ?_
              refine wpC_seq ?_
              refine wpC_region ?_
              refine wpR_v (OpV_assign rfl) rfl ?_
              refine wpR_nil ?_
              refine QE_then_n ?_
              refine wpC_block ?_
              refine wpC_le [(1, vI a1), (2, va2), (7, slV v_7 (eP eI (eP e64 (eP eS eI))).sz 0 x_6.2), (13, vI 0)] ⟨rfl, rfl, rfl, rfl, trivial⟩ ?_
              refine loop_ind (F.law30_CborPlaces_L2 a1 a2 x_6) (fun (s : Int × (List (Int × UInt64 × (List UInt8) × Int))) L w => L = [(1, vI a1), (2, va2), (7, slV v_7 (eP eI (eP e64 (eP eS eI))).sz 0 x_6.2), (13, vI s.1)] ∧ x_6.2 ≤ s.2.length ∧ St [] w0 w [own (eP eI (eP e64 (eP eS eI))) v_7 s.2]) ?_ (0, x_6.1) ⟨rfl, hk_9, (hS.pick [0] (by decide) rfl)⟩ h
              rintro k_71 ⟨x_36, x_37⟩ L w q_41 hI ih_40 h hk_39
              try dsimp only at hI
              obtain ⟨rfl, hK_38, hS⟩ := hI
              unfold F.law30_CborPlaces_L2 at h
              refine wpC_seq ?_
              refine wpC_seq ?_
              refine wpC_region ?_
              refine wpR_v (OpV_move rfl) rfl ?_
              refine wpR_v (OpV_move rfl) rfl ?_
              refine wpR_v (OpV_len Tryd.underlying22 rfl ((hS.ro 0 rfl).tk hK_38)) rfl ?_
              refine wpR_v (OpV_bin rfl rfl (b_ilss _ x_36 ((x_37.take x_6.2).length : Int))) rfl ?_
              refine wpR_nil ?_
              refine QE_then_n ?_
              refine wpC_cond rfl (fun hb_70 => ?_) (fun hb_70 => ?_)
              · have h := if_t h hb_70
                refine wpC_skip ?_
                refine QE_then_n ?_
                refine seq_join (r := q_41) (fun (g : (List (Int × UInt64 × (List UInt8) × Int))) L w => L = [(1, vI a1), (2, va2), (7, slV v_7 (eP eI (eP e64 (eP eS eI))).sz 0 x_6.2), (13, vI x_36)] ∧ x_6.2 ≤ g.length ∧ St [] w0 w [own (eP eI (eP e64 (eP eS eI))) v_7 g]) (F.law30_CborPlaces_K3 x_36) ?_ ?_
                · rintro x_48 L w hJ h
                  try dsimp only at hJ
                  obtain ⟨rfl, hK_49, hS⟩ := hJ
                  unfold F.law30_CborPlaces_K3 at h
                  refine wpC_region ?_
                  refine wpR_v (OpV_move rfl) rfl ?_
                  refine wpR_v (OpV_bin rfl rfl (b_iadd _ x_36 1)) rfl ?_
                  refine wpR_v (OpV_assign rfl) rfl ?_
                  refine wpR_nil ?_
                  exact QE_rnd (wpN_le _ (by exact ⟨rfl, rfl, rfl, rfl, trivial⟩) (ih_40 (wI (x_36 + 1), x_48) _ _ ⟨rfl, hK_49, hS⟩ (oinl_some h hk_39)))
                · intro hK_50
                  refine wpC_block ?_
                  refine wpC_seq ?_
                  refine wpC_region ?_
                  refine wpR_v (OpV_move rfl) rfl ?_
                  refine wpR_v (OpV_move rfl) rfl ?_
                  obtain ⟨x_42, hx_42, h⟩ := obind_some h
                  refine wpR_v (G_ix_room Tryd.underlying22 ti33 rfl rfl (hS.ro 0 rfl) hK_38 hx_42) rfl ?_
                  refine wpR_v (OpV_fieldE (k := 0) Tryd.underlying33 rfl rfl nz3 rfl) rfl ?_
                  refine wpR_v (G_loadF Tryd.underlying3 rfl rfl (hS.ro 0 rfl) (getO_take hx_42) rfl rfl) rfl ?_
                  refine wpR_v (OpV_bin rfl rfl (b_ieql _ x_42.1 2)) rfl ?_
                  refine wpR_nil ?_
                  refine QE_then_n ?_
                  refine wpC_cond rfl (fun hb_47 => ?_) (fun hb_47 => ?_)
                  · have h := if_t h hb_47
                    refine wpC_region ?_
                    refine wpR_v (OpV_move rfl) rfl ?_
                    refine wpR_v (OpV_move rfl) rfl ?_
                    refine wpR_v (OpV_move rfl) rfl ?_
                    refine wpR_v (OpV_move rfl) rfl ?_
                    obtain ⟨x_43, hx_43, h⟩ := obind_some h
                    refine wpR_v (G_ix_room Tryd.underlying22 ti33 rfl rfl (hS.ro 0 rfl) hK_38 hx_43) rfl ?_
                    refine wpR_v (OpV_fieldE (k := 2) Tryd.underlying33 rfl rfl nz9 rfl) rfl ?_
                    refine wpR_v (G_loadF Tryd.underlying9 rfl rfl (hS.ro 0 rfl) (getO_take hx_43) rfl rfl) rfl ?_
                    obtain ⟨x_44, hx_44, h⟩ := obind_some h
                    refine wpR_v (OpV_bin rfl rfl (G_sadd _ hx_44)) rfl ?_
                    obtain ⟨x_45, hx_45, h⟩ := obind_some h
                    refine wpR_v (G_ix_room Tryd.underlying22 ti33 rfl rfl (hS.ro 0 rfl) hK_38 hx_45) rfl ?_
                    refine wpR_v (OpV_fieldE (k := 2) Tryd.underlying33 rfl rfl nz9 rfl) rfl ?_
                    refine wpR_y (OpY_storeF (t := (x_45.1, x_45.2.1, x_44, x_45.2.2.2)) (us := [vS x_44]) sz9 rfl rfl rfl hS (i := 0) rfl (getO_take hx_45) rfl rfl) ?_
                    intro w hS
                    obtain ⟨x_46, hx_46, h⟩ := olet_some h
                    rw [hx_46] at hS
                    refine wpR_nil ?_
                    refine QE_blk_n ?_
                    refine QE_then_n ?_
                    exact wpC_le _ (by exact ⟨rfl, rfl, rfl, rfl, trivial⟩) (hK_50 x_46 _ _ ⟨rfl, (by rw [← hx_46, List.length_set]; exact hK_38), hS⟩ h)
                  · have h := if_f h hb_47
                    refine wpC_skip ?_
                    refine QE_blk_n ?_
                    refine QE_then_n ?_
                    exact wpC_le _ (by exact ⟨rfl, rfl, rfl, rfl, trivial⟩) (hK_50 x_37 _ _ ⟨rfl, hK_38, hS⟩ h)
              · have h := if_f h hb_70
                refine wpC_exit ?_
                refine QE_then_x ?_
                refine QE_then_x ?_
                have h := oinr_some h hk_39
                refine QE_blk_x ?_
                refine QE_then_n ?_
                refine wpC_seq ?_
                refine wpC_region ?_
                refine wpR_v (OpV_move rfl) rfl ?_
                refine wpR_v (OpV_move rfl) rfl ?_
                obtain ⟨x_51, hx_51, h⟩ := obind_some h
                refine wpR_call (by kernel_rfl) rfl (c_ref30_Behind _ (x_37.take x_6.2) a1 (slV v_7 (eP eI (eP e64 (eP eS eI))).sz 0 x_6.2)  ((hS.ro 0 rfl).tk hK_38).rp _ hx_51) rfl ?_
                rintro _ w ⟨rfl, hS1⟩
                have hS := hS.call hS1
                simp only [List.cons_append, List.nil_append] at hS
                refine wpR_v (OpV_assign rfl) rfl ?_
                refine wpR_nil ?_
                refine QE_then_n ?_
                refine wpC_seq ?_
                refine wpC_region ?_
                refine wpR_v (OpV_move rfl) rfl ?_
                refine wpR_v (OpV_move rfl) rfl ?_
                refine wpR_v (OpV_move rfl) rfl ?_
                obtain ⟨x_52, hx_52, h⟩ := obind_some h
                refine wpR_call (by kernel_rfl) rfl (c_ref30_Member _ (x_37.take x_6.2) a1 a2 (slV v_7 (eP eI (eP e64 (eP eS eI))).sz 0 x_6.2) va2  ((hS.ro 0 rfl).tk hK_38).rp (ha2.now hS.fr).rp _ hx_52) rfl ?_
                rintro _ w ⟨rfl, hS1⟩
                have hS := hS.call hS1
                simp only [List.cons_append, List.nil_append] at hS
                refine wpR_v (OpV_assign rfl) rfl ?_
                refine wpR_nil ?_
                refine QE_then_n ?_
                refine wpC_seq ?_
                refine wpC_region ?_
                refine wpR_v (OpV_move rfl) rfl ?_
                refine wpR_v (OpV_move rfl) rfl ?_
                obtain ⟨x_53, hx_53, h⟩ := obind_some h
                refine wpR_call (by kernel_rfl) rfl (c_cbor_Behind _ (x_37.take x_6.2) a1 (slV v_7 (eP eI (eP e64 (eP eS eI))).sz 0 x_6.2)  (hT.now hS.fr) ((hS.ro 0 rfl).tk hK_38).rp _ hx_53) rfl ?_
                rintro _ w ⟨rfl, hS1⟩
                have hS := hS.call hS1
                simp only [List.cons_append, List.nil_append] at hS
                refine wpR_v (OpV_assign rfl) rfl ?_
                refine wpR_nil ?_
                refine QE_then_n ?_
                refine wpC_seq ?_
                refine wpC_region ?_
                refine wpR_v (OpV_move rfl) rfl ?_
                refine wpR_v (OpV_move rfl) rfl ?_
                refine wpR_v (OpV_move rfl) rfl ?_
                obtain ⟨x_54, hx_54, h⟩ := obind_some h
                refine wpR_call (by kernel_rfl) rfl (c_cbor_Member _ (x_37.take x_6.2) a1 a2 (slV v_7 (eP eI (eP e64 (eP eS eI))).sz 0 x_6.2) va2  (hT.now hS.fr) ((hS.ro 0 rfl).tk hK_38).rp (ha2.now hS.fr).rp _ hx_54) rfl ?_
                rintro _ w ⟨rfl, hS1⟩
                have hS := hS.call hS1
                simp only [List.cons_append, List.nil_append] at hS
                refine wpR_v (OpV_assign rfl) rfl ?_
                refine wpR_nil ?_
                refine QE_then_n ?_
                refine wpC_seq ?_
                refine seq_join (r := r) (fun (g : Bool) L w => L = [(1, vI a1), (2, va2), (7, slV v_7 (eP eI (eP e64 (eP eS eI))).sz 0 x_6.2), (126, vB g)] ∧ St [] w0 w [own (eP eI (eP e64 (eP eS eI))) v_7 x_37]) (F.law30_CborPlaces_K4 x_6 x_37 a1 a2) ?_ ?_
                · rintro x_56 L w hJ h
                  try dsimp only at hJ
                  obtain ⟨rfl, hS⟩ := hJ
                  unfold F.law30_CborPlaces_K4 at h
                  refine wpC_cond rfl (fun hb_69 => ?_) (fun hb_69 => ?_)
                  · have h := if_t h hb_69
                    refine wpC_seq ?_
                    refine wpC_region ?_
                    refine wpR_v (OpV_assign rfl) rfl ?_
                    refine wpR_nil ?_
                    refine QE_then_n ?_
                    refine wpC_ret ?_
                    refine QE_then_r ?_
                    cases h
                    exact QE_ret1 rfl rfl ⟨rfl, hS.pick [] (by decide) rfl⟩
                  · have h := if_f h hb_69
                    refine wpC_skip ?_
                    refine QE_then_n ?_
                    refine seq_join (r := r) (fun (g : (List (Int × UInt64 × (List UInt8) × Int))) L w => L = [(1, vI a1), (2, va2), (7, slV v_7 (eP eI (eP e64 (eP eS eI))).sz 0 x_6.2)] ∧ x_6.2 ≤ g.length ∧ St [] w0 w [own (eP eI (eP e64 (eP eS eI))) v_7 g]) (F.law30_CborPlaces_K5 a1 a2 x_6) ?_ ?_
                    · rintro x_61 L w hJ h
                      try dsimp only at hJ
                      obtain ⟨rfl, hK_62, hS⟩ := hJ
                      unfold F.law30_CborPlaces_K5 at h
                      refine wpC_seq ?_
                      refine wpC_region ?_
                      refine wpR_v (OpV_move rfl) rfl ?_
                      refine wpR_v (OpV_move rfl) rfl ?_
                      obtain ⟨x_64, hx_64, h⟩ := obind_some h
                      refine wpR_call (by kernel_rfl) rfl (c_ref30_Behind _ (x_61.take x_6.2) a1 (slV v_7 (eP eI (eP e64 (eP eS eI))).sz 0 x_6.2)  ((hS.ro 0 rfl).tk hK_62).rp _ hx_64) rfl ?_
                      rintro _ w ⟨rfl, hS1⟩
                      have hS := hS.call hS1
                      simp only [List.cons_append, List.nil_append] at hS
                      refine wpR_v (OpV_assign rfl) rfl ?_
                      refine wpR_nil ?_
                      refine QE_then_n ?_
                      refine wpC_seq ?_
                      refine wpC_region ?_
                      refine wpR_v (OpV_move rfl) rfl ?_
                      refine wpR_v (OpV_move rfl) rfl ?_
                      refine wpR_v (OpV_move rfl) rfl ?_
                      obtain ⟨x_65, hx_65, h⟩ := obind_some h
                      refine wpR_call (by kernel_rfl) rfl (c_ref30_Member _ (x_61.take x_6.2) a1 a2 (slV v_7 (eP eI (eP e64 (eP eS eI))).sz 0 x_6.2) va2  ((hS.ro 0 rfl).tk hK_62).rp (ha2.now hS.fr).rp _ hx_65) rfl ?_
                      rintro _ w ⟨rfl, hS1⟩
                      have hS := hS.call hS1
                      simp only [List.cons_append, List.nil_append] at hS
                      refine wpR_v (OpV_assign rfl) rfl ?_
                      refine wpR_nil ?_
                      refine QE_then_n ?_
                      refine wpC_seq ?_
                      refine wpC_region ?_
                      refine wpR_v (OpV_move rfl) rfl ?_
                      refine wpR_v (OpV_move rfl) rfl ?_
                      obtain ⟨x_66, hx_66, h⟩ := obind_some h
                      refine wpR_call (by kernel_rfl) rfl (c_cbor_Behind _ (x_61.take x_6.2) a1 (slV v_7 (eP eI (eP e64 (eP eS eI))).sz 0 x_6.2)  (hT.now hS.fr) ((hS.ro 0 rfl).tk hK_62).rp _ hx_66) rfl ?_
                      rintro _ w ⟨rfl, hS1⟩
                      have hS := hS.call hS1
                      simp only [List.cons_append, List.nil_append] at hS
                      refine wpR_v (OpV_move rfl) rfl ?_
                      refine wpR_v (OpV_bin rfl rfl (b_ieql _ x_66 x_64)) rfl ?_
                      refine wpR_v (OpV_move rfl) rfl ?_
                      cases hb_67 : (x_66 == x_64)
                      case true =>
                        have h := if_t h hb_67
                        try simp only [hb_67]
                        refine wpR_gv (t := 148) rfl rfl (OpV_move rfl) rfl ?_
                        refine wpR_gv (t := 148) rfl rfl (OpV_move rfl) rfl ?_
                        refine wpR_gv (t := 148) rfl rfl (OpV_move rfl) rfl ?_
                        obtain ⟨x_68, hx_68, h⟩ := obind_some h
                        refine wpR_gcall (t := 148) rfl rfl (by kernel_rfl) rfl (c_cbor_Member _ (x_61.take x_6.2) a1 a2 (slV v_7 (eP eI (eP e64 (eP eS eI))).sz 0 x_6.2) va2  (hT.now hS.fr) ((hS.ro 0 rfl).tk hK_62).rp (ha2.now hS.fr).rp _ hx_68) rfl ?_
                        rintro _ w ⟨rfl, hS1⟩
                        have hS := hS.call hS1
                        simp only [List.cons_append, List.nil_append] at hS
                        refine wpR_gv (t := 148) rfl rfl (OpV_move rfl) rfl ?_
                        refine wpR_gv (t := 148) rfl rfl (OpV_bin rfl rfl (b_ieql _ x_68 x_65)) rfl ?_
                        refine wpR_v (OpV_pickT rfl rfl) rfl ?_
                        refine wpR_v (OpV_assign rfl) rfl ?_
                        refine wpR_nil ?_
                        refine QE_then_n ?_
                        refine wpC_ret ?_
                        cases h
                        exact QE_ret1 rfl rfl ⟨rfl, hS.pick [] (by decide) rfl⟩
                      case false =>
                        have h := if_f h hb_67
                        try simp only [hb_67]
                        refine wpR_gskip (b := false) (t := 148) rfl rfl rfl rfl ?_
                        refine wpR_gskip (b := false) (t := 148) rfl rfl rfl rfl ?_
                        refine wpR_gskip (b := false) (t := 148) rfl rfl rfl rfl ?_
                        refine wpR_gskip (b := false) (t := 148) rfl rfl rfl rfl ?_
                        refine wpR_gskip (b := false) (t := 148) rfl rfl rfl rfl ?_
                        refine wpR_gskip (b := false) (t := 148) rfl rfl rfl rfl ?_
                        refine wpR_v (OpV_pickF rfl rfl) rfl ?_
                        refine wpR_v (OpV_assign rfl) rfl ?_
                        refine wpR_nil ?_
                        refine QE_then_n ?_
                        refine wpC_ret ?_
                        cases h
                        exact QE_ret1 rfl rfl ⟨rfl, hS.pick [] (by decide) rfl⟩
                    · intro hK_63
                      refine wpC_seq ?_
                      refine wpC_region ?_
                      refine wpR_v (OpV_move rfl) rfl ?_
                      refine wpR_v (OpV_len Tryd.underlying22 rfl ((hS.ro 0 rfl).tk hK_38)) rfl ?_
                      refine wpR_v (OpV_bin rfl rfl (b_igtr _ ((x_37.take x_6.2).length : Int) 0)) rfl ?_
                      refine wpR_nil ?_
                      refine QE_then_n ?_
                      refine wpC_cond rfl (fun hb_60 => ?_) (fun hb_60 => ?_)
                      · have h := if_t h hb_60
                        refine wpC_region ?_
                        refine wpR_v (OpV_move rfl) rfl ?_
                        refine wpR_v (OpV_move rfl) rfl ?_
                        refine wpR_v (OpV_len Tryd.underlying22 rfl ((hS.ro 0 rfl).tk hK_38)) rfl ?_
                        refine wpR_v (OpV_bin rfl rfl (b_isub _ ((x_37.take x_6.2).length : Int) 1)) rfl ?_
                        obtain ⟨x_58, hx_58, h⟩ := obind_some h
                        refine wpR_v (G_ix_room Tryd.underlying22 ti33 rfl rfl (hS.ro 0 rfl) hK_38 hx_58) rfl ?_
                        refine wpR_v (OpV_fieldE (k := 0) Tryd.underlying33 rfl rfl nz3 rfl) rfl ?_
                        refine wpR_y (OpY_storeF (t := (8, x_58.2.1, x_58.2.2.1, x_58.2.2.2)) (us := [vI 8]) sz3 rfl rfl rfl hS (i := 0) rfl (getO_take hx_58) rfl rfl) ?_
                        intro w hS
                        obtain ⟨x_59, hx_59, h⟩ := olet_some h
                        rw [hx_59] at hS
                        refine wpR_nil ?_
                        refine QE_then_n ?_
                        exact wpC_le _ (by exact ⟨rfl, rfl, rfl, trivial⟩) (hK_63 x_59 _ _ ⟨rfl, (by rw [← hx_59, List.length_set]; exact hK_38), hS⟩ h)
                      · have h := if_f h hb_60
                        refine wpC_skip ?_
                        refine QE_then_n ?_
                        exact wpC_le _ (by exact ⟨rfl, rfl, rfl, trivial⟩) (hK_63 x_37 _ _ ⟨rfl, hK_38, hS⟩ h)
                · intro hK_57
                  refine wpC_region ?_
                  refine wpR_v (OpV_move rfl) rfl ?_
                  refine wpR_v (OpV_move rfl) rfl ?_
                  refine wpR_v (OpV_bin rfl rfl (b_ineq _ x_53 x_51)) rfl ?_
                  refine wpR_v (OpV_move rfl) rfl ?_
                  cases hb_55 : (x_53 != x_51)
                  case true =>
                    have h := if_t h hb_55
                    try simp only [hb_55]
                    refine wpR_gskip (b := true) (t := 122) rfl rfl rfl rfl ?_
                    refine wpR_gskip (b := true) (t := 122) rfl rfl rfl rfl ?_
                    refine wpR_gskip (b := true) (t := 122) rfl rfl rfl rfl ?_
                    refine wpR_v (OpV_pickT rfl rfl) rfl ?_
                    refine wpR_nil ?_
                    refine QE_then_n ?_
                    exact wpC_le _ (by exact ⟨rfl, rfl, rfl, rfl, trivial⟩) (hK_57 true _ _ ⟨rfl, hS⟩ h)
                  case false =>
                    have h := if_f h hb_55
                    try simp only [hb_55]
                    refine wpR_gv (t := 122) rfl rfl (OpV_move rfl) rfl ?_
                    refine wpR_gv (t := 122) rfl rfl (OpV_move rfl) rfl ?_
                    refine wpR_gv (t := 122) rfl rfl (OpV_bin rfl rfl (b_ineq _ x_54 x_52)) rfl ?_
                    refine wpR_v (OpV_pickF rfl rfl) rfl ?_
                    refine wpR_nil ?_
                    refine QE_then_n ?_
                    exact wpC_le _ (by exact ⟨rfl, rfl, rfl, rfl, trivial⟩) (hK_57 (x_54 != x_52) _ _ ⟨rfl, hS⟩ h)
      · intro hK_24
        refine wpC_region ?_
        refine wpR_v (OpV_move rfl) rfl ?_
        refine wpR_v (OpV_move rfl) rfl ?_
        refine wpR_v (OpV_move rfl) rfl ?_
        obtain ⟨x_16, hx_16, h⟩ := obind_some h
        refine wpR_call (by kernel_rfl) rfl (c_ref30_Behind _ a0 a1 va0  (ha0.now hS.fr).rp _ hx_16) rfl ?_
        rintro _ w ⟨rfl, hS1⟩
        have hS := hS.call hS1
        simp only [List.cons_append, List.nil_append] at hS
        refine wpR_v (OpV_bin rfl rfl (b_ineq _ x_14 x_16)) rfl ?_
        refine wpR_v (OpV_move rfl) rfl ?_
        cases hb_17 : (x_14 != x_16)
        case true =>
          have h := if_t h hb_17
          try simp only [hb_17]
          refine wpR_gskip (b := true) (t := 37) rfl rfl rfl rfl ?_
          refine wpR_gskip (b := true) (t := 37) rfl rfl rfl rfl ?_
          refine wpR_gskip (b := true) (t := 37) rfl rfl rfl rfl ?_
          refine wpR_gskip (b := true) (t := 37) rfl rfl rfl rfl ?_
          refine wpR_gskip (b := true) (t := 37) rfl rfl rfl rfl ?_
          refine wpR_gskip (b := true) (t := 37) rfl rfl rfl rfl ?_
          refine wpR_v (OpV_pickT rfl rfl) rfl ?_
          refine wpR_v (OpV_move rfl) rfl ?_
          refine wpR_gskip (b := true) (t := 45) rfl rfl rfl rfl ?_
          refine wpR_gskip (b := true) (t := 45) rfl rfl rfl rfl ?_
          refine wpR_gskip (b := true) (t := 45) rfl rfl rfl rfl ?_
          refine wpR_gskip (b := true) (t := 45) rfl rfl rfl rfl ?_
          refine wpR_v (OpV_pickT rfl rfl) rfl ?_
          refine wpR_v (OpV_move rfl) rfl ?_
          refine wpR_gskip (b := true) (t := 51) rfl rfl rfl rfl ?_
          refine wpR_gskip (b := true) (t := 51) rfl rfl rfl rfl ?_
          refine wpR_gskip (b := true) (t := 51) rfl rfl rfl rfl ?_
          refine wpR_gskip (b := true) (t := 51) rfl rfl rfl rfl ?_
          refine wpR_v (OpV_pickT rfl rfl) rfl ?_
          refine wpR_nil ?_
          refine QE_then_n ?_
          exact wpC_le _ (by exact ⟨rfl, rfl, rfl, rfl, rfl, rfl, trivial⟩) (hK_24 true _ _ ⟨rfl, (hS.pick [1, 0] (by decide) rfl)⟩ h)
        case false =>
          have h := if_f h hb_17
          try simp only [hb_17]
          refine wpR_gv (t := 37) rfl rfl (OpV_move rfl) rfl ?_
          refine wpR_gv (t := 37) rfl rfl (OpV_move rfl) rfl ?_
          refine wpR_gv (t := 37) rfl rfl (OpV_move rfl) rfl ?_
          refine wpR_gv (t := 37) rfl rfl (OpV_move rfl) rfl ?_
          obtain ⟨x_18, hx_18, h⟩ := obind_some h
          refine wpR_gcall (t := 37) rfl rfl (by kernel_rfl) rfl (c_ref30_Member _ a0 a1 a2 va0 va2  (ha0.now hS.fr).rp (ha2.now hS.fr).rp _ hx_18) rfl ?_
          rintro _ w ⟨rfl, hS1⟩
          have hS := hS.call hS1
          simp only [List.cons_append, List.nil_append] at hS
          refine wpR_gv (t := 37) rfl rfl (OpV_bin rfl rfl (b_ineq _ x_15 x_18)) rfl ?_
          refine wpR_v (OpV_pickF rfl rfl) rfl ?_
          refine wpR_v (OpV_move rfl) rfl ?_
          cases hb_19 : (x_15 != x_18)
          case true =>
            have h := if_t h hb_19
            try simp only [hb_19]
            refine wpR_gskip (b := true) (t := 45) rfl rfl rfl rfl ?_
            refine wpR_gskip (b := true) (t := 45) rfl rfl rfl rfl ?_
            refine wpR_gskip (b := true) (t := 45) rfl rfl rfl rfl ?_
            refine wpR_gskip (b := true) (t := 45) rfl rfl rfl rfl ?_
            refine wpR_v (OpV_pickT rfl rfl) rfl ?_
            refine wpR_v (OpV_move rfl) rfl ?_
            refine wpR_gskip (b := true) (t := 51) rfl rfl rfl rfl ?_
            refine wpR_gskip (b := true) (t := 51) rfl rfl rfl rfl ?_
            refine wpR_gskip (b := true) (t := 51) rfl rfl rfl rfl ?_
            refine wpR_gskip (b := true) (t := 51) rfl rfl rfl rfl ?_
            refine wpR_v (OpV_pickT rfl rfl) rfl ?_
            refine wpR_nil ?_
            refine QE_then_n ?_
            exact wpC_le _ (by exact ⟨rfl, rfl, rfl, rfl, rfl, rfl, trivial⟩) (hK_24 true _ _ ⟨rfl, (hS.pick [1, 0] (by decide) rfl)⟩ h)
          case false =>
            have h := if_f h hb_19
            try simp only [hb_19]
            refine wpR_gv (t := 45) rfl rfl (OpV_move rfl) rfl ?_
            refine wpR_gv (t := 45) rfl rfl (OpV_move rfl) rfl ?_
            obtain ⟨x_20, hx_20, h⟩ := obind_some h
            refine wpR_gcall (t := 45) rfl rfl (by kernel_rfl) rfl (c_law30_left _ x_6.1 x_6.2 a0 v_7 va0  (hS.ro 1 rfl).rp hk_9 (ha0.now hS.fr).rp _ hx_20) rfl ?_
            rintro _ w ⟨rfl, hS1⟩
            have hS := hS.call hS1
            simp only [List.cons_append, List.nil_append] at hS
            refine wpR_gv (t := 45) rfl rfl (OpV_un rfl (u_not x_20)) rfl ?_
            refine wpR_v (OpV_pickF rfl rfl) rfl ?_
            refine wpR_v (OpV_move rfl) rfl ?_
            cases hb_21 : (!x_20)
            case true =>
              have h := if_t h hb_21
              try simp only [hb_21]
              refine wpR_gskip (b := true) (t := 51) rfl rfl rfl rfl ?_
              refine wpR_gskip (b := true) (t := 51) rfl rfl rfl rfl ?_
              refine wpR_gskip (b := true) (t := 51) rfl rfl rfl rfl ?_
              refine wpR_gskip (b := true) (t := 51) rfl rfl rfl rfl ?_
              refine wpR_v (OpV_pickT rfl rfl) rfl ?_
              refine wpR_nil ?_
              refine QE_then_n ?_
              exact wpC_le _ (by exact ⟨rfl, rfl, rfl, rfl, rfl, rfl, trivial⟩) (hK_24 true _ _ ⟨rfl, (hS.pick [1, 0] (by decide) rfl)⟩ h)
            case false =>
              have h := if_f h hb_21
              try simp only [hb_21]
              refine wpR_gv (t := 51) rfl rfl (OpV_move rfl) rfl ?_
              refine wpR_gv (t := 51) rfl rfl (OpV_move rfl) rfl ?_
              obtain ⟨x_22, hx_22, h⟩ := obind_some h
              refine wpR_gcall (t := 51) rfl rfl (by kernel_rfl) rfl (c_law30_left _ x_10.1 x_10.2 a2 v_11 va2  (hS.ro 0 rfl).rp hk_13 (ha2.now hS.fr).rp _ hx_22) rfl ?_
              rintro _ w ⟨rfl, hS1⟩
              have hS := hS.call hS1
              simp only [List.cons_append, List.nil_append] at hS
              refine wpR_gv (t := 51) rfl rfl (OpV_un rfl (u_not x_22)) rfl ?_
              refine wpR_v (OpV_pickF rfl rfl) rfl ?_
              refine wpR_nil ?_
              refine QE_then_n ?_
              exact wpC_le _ (by exact ⟨rfl, rfl, rfl, rfl, rfl, rfl, trivial⟩) (hK_24 (!x_22) _ _ ⟨rfl, (hS.pick [1, 0] (by decide) rfl)⟩ h)
  · intro hK_5
    refine wpC_region ?_
    refine wpR_v (OpV_move rfl) rfl ?_
    obtain ⟨x_1, hx_1, h⟩ := obind_some h
    refine wpR_call (by kernel_rfl) rfl (c_ref30_Beyond _ a0 va0  (ha0.now hS.fr).rp _ hx_1) rfl ?_
    rintro _ w ⟨rfl, hS1⟩
    have hS := hS.call hS1
    simp only [List.cons_append, List.nil_append] at hS
    refine wpR_v (OpV_move rfl) rfl ?_
    cases hb_2 : x_1
    case true =>
      have h := if_t h hb_2
      try simp only [hb_2]
      refine wpR_gskip (b := true) (t := 17) rfl rfl rfl rfl ?_
      refine wpR_gskip (b := true) (t := 17) rfl rfl rfl rfl ?_
      refine wpR_v (OpV_pickT rfl rfl) rfl ?_
      refine wpR_nil ?_
      refine QE_then_n ?_
      exact wpC_le _ (by exact ⟨rfl, rfl, rfl, rfl, trivial⟩) (hK_5 true _ _ ⟨rfl, hS⟩ h)
    case false =>
      have h := if_f h hb_2
      try simp only [hb_2]
      refine wpR_gv (t := 17) rfl rfl (OpV_move rfl) rfl ?_
      obtain ⟨x_3, hx_3, h⟩ := obind_some h
      refine wpR_gcall (t := 17) rfl rfl (by kernel_rfl) rfl (c_ref30_Beyond _ a2 va2  (ha2.now hS.fr).rp _ hx_3) rfl ?_
      rintro _ w ⟨rfl, hS1⟩
      have hS := hS.call hS1
      simp only [List.cons_append, List.nil_append] at hS
      refine wpR_v (OpV_pickF rfl rfl) rfl ?_
      refine wpR_nil ?_
      refine QE_then_n ?_
      exact wpC_le _ (by exact ⟨rfl, rfl, rfl, rfl, trivial⟩) (hK_5 x_3 _ _ ⟨rfl, hS⟩ h)

end Go.Proofs
