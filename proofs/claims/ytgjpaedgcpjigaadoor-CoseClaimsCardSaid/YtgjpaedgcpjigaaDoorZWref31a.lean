import Derived.Test.YtgjpaedgcpjigaaDoorZW0
import Derived.Test.YtgjpaedgcpjigaaDoorGkFref31
import Derived.Test.YtgjpaedgcpjigaaDoorZWref30d
set_option linter.unusedVariables false
set_option linter.unusedSimpArgs false
set_option linter.unusedVariables false
set_option maxRecDepth 4000
namespace Go.Proofs
open Go Go.RowKit Go.Gk
theorem c_ref31_value (w0 : World) (a0 : List (Int × UInt64 × (List UInt8) × Int)) (a1 : Int) (a2 : UInt64) (va0 : Value) (ha0 : RP [] w0 (eP eI (eP e64 (eP eS eI))) va0 a0) (r : Int)
  (h : F.ref31_value a0 a1 a2 = some r) : Calls Tryd.prog 48 #[va0, vI a1, v64 a2] w0 (Ret fun v w => v = vI r ∧ St [] w0 w []) := by
 refine calls_at 13 Tryd.func48 rfl rfl rfl ?_
 have hS := St.start w0
 refine wpC_le [(0, va0), (1, vI a1), (2, v64 a2)] ⟨rfl, rfl, rfl, trivial⟩ ?_
 unfold F.ref31_value at h
 refine wpC_seq ?_
 refine wpC_region ?_
 refine wpR_v (OpV_assign rfl) rfl ?_
 refine wpR_nil ?_
 refine QE_then_n ?_
 refine wpC_seq ?_
 refine wpC_region ?_
 refine wpR_v (OpV_move rfl) rfl ?_
 refine wpR_v (OpV_move rfl) rfl ?_
 refine wpR_v (OpV_move rfl) rfl ?_
 refine wpR_v (OpV_build (vs := [(1, v64 a2, [v64 a2])]) (cells := [vI 0, v64 a2, vS [], vI 0]) rfl lay42 ⟨rfl, trivial⟩ (by kernel_rfl)) rfl ?_
 refine wpR_x (OpX_litE (e := (eP eI (eP e64 (eP eS eI)))) (l := ([(0, a2, [], 0)] : List (Int × UInt64 × (List UInt8) × Int))) (vs := [(0, .agg #[vI 0, v64 a2, vS [], vI 0], [vI 0, v64 a2, vS [], vI 0])]) Tryd.underlying37 ti42 rfl ⟨rfl, trivial⟩ rfl rfl (Nat.le_of_ble_eq_true rfl) (Nat.le_of_ble_eq_true rfl) hS) rfl ?_
 rintro v_1 w hS
 obtain ⟨x_3, hx_3, h⟩ := obind_some h
 refine wpR_call (by kernel_rfl) rfl (c_ref30_Member _ a0 a1 ([(0, a2, [], 0)] : List (Int × UInt64 × (List UInt8) × Int)) va0 v_1  (ha0.now hS.fr).rp (hS.ro 0 rfl).rp _ hx_3) rfl ?_
 rintro _ w ⟨rfl, hS1⟩
 have hS := hS.call hS1
 simp only [List.cons_append, List.nil_append] at hS
 refine wpR_v (OpV_assign rfl) rfl ?_
 refine wpR_nil ?_
 refine QE_then_n ?_
 refine wpC_ret ?_
 cases h
 exact QE_ret1 rfl rfl ⟨rfl, hS.pick [] (by decide) rfl⟩
theorem c_ref31_said1 (w0 : World) (a0 : List (Int × UInt64 × (List UInt8) × Int)) (a1 : UInt64) (a2 : Int) (va0 : Value) (ha0 : RP [] w0 (eP eI (eP e64 (eP eS eI))) va0 a0) (r : List UInt8 × Bool × Bool)
  (h : F.ref31_said1 a0 a1 a2 = some r) : Calls Tryd.prog 32 #[va0, v64 a1, vI a2] w0 (Ret fun v w => v = .tuple #[vS r.1, vB r.2.1, vB r.2.2] ∧ St [] w0 w []) := by
 refine calls_at 27 Tryd.func32 rfl rfl rfl ?_
 have hS := St.start w0
 refine wpC_le [(0, va0), (1, v64 a1), (2, vI a2)] ⟨rfl, rfl, rfl, trivial⟩ ?_
 unfold F.ref31_said1 at h
 refine wpC_seq ?_
 refine wpC_region ?_
 refine wpR_v (OpV_assign rfl) rfl ?_
 refine wpR_v (OpV_assign rfl) rfl ?_
 refine wpR_v (OpV_assign rfl) rfl ?_
 refine wpR_nil ?_
 refine QE_then_n ?_
 refine wpC_seq ?_
 refine wpC_region ?_
 refine wpR_v (OpV_move rfl) rfl ?_
 refine wpR_v (OpV_move rfl) rfl ?_
 obtain ⟨x_1, hx_1, h⟩ := obind_some h
 refine wpR_call (by kernel_rfl) rfl (c_ref31_value _ a0 0 a1 va0  (ha0.now hS.fr).rp _ hx_1) rfl ?_
 rintro _ w ⟨rfl, hS1⟩
 have hS := hS.call hS1
 simp only [List.cons_append, List.nil_append] at hS
 refine wpR_v (OpV_assign rfl) rfl ?_
 refine wpR_nil ?_
 refine QE_then_n ?_
 refine wpC_seq ?_
 refine wpC_seq ?_
 refine wpC_region ?_
 refine wpR_v (OpV_move rfl) rfl ?_
 refine wpR_v (OpV_bin rfl rfl (b_ilss _ x_1 0)) rfl ?_
 refine wpR_nil ?_
 refine QE_then_n ?_
 refine wpC_cond rfl (fun hb_4 => ?_) (fun hb_4 => ?_)
 ·have h := if_t h hb_4
  refine wpC_seq ?_
  refine wpC_region ?_
  refine wpR_v (OpV_assign rfl) rfl ?_
  refine wpR_v (OpV_assign rfl) rfl ?_
  refine wpR_v (OpV_assign rfl) rfl ?_
  refine wpR_nil ?_
  refine QE_then_n ?_
  refine wpC_ret ?_
  refine QE_then_r ?_
  cases h
  exact QE_ret3 rfl rfl rfl rfl ⟨rfl, hS⟩
 ·have h := if_f h hb_4
  refine wpC_skip ?_
  refine QE_then_n ?_
  refine wpC_seq ?_
  refine wpC_regionT (fun w' => St [] w0 w' []) (fun _ => true) hmix (fun _ _ _ hf => hf.2) (fun _ _ hf => hf) (by kernel_rfl) ?_
  have hS := hS.drew
  show lxE _ _ _ _ _ _ _ [0, 1, 2, 3, 4, 5, 6, 7, 8, 9, 10, 11, 12, 13, 14] _ _
  refine lxE_v hS rfl rfl (fun w hF => OpV_move rfl) rfl ?_
  refine lxE_v hS rfl rfl (fun w hF => OpV_move rfl) rfl ?_
  obtain ⟨x_2, hx_2, h⟩ := obind_some h
  refine lxE_v hS rfl rfl (fun w hF => G_ix Tryd.underlying37 ti42 rfl rfl (ha0.now hF.fr) hx_2) rfl ?_
  refine lxE_v hS rfl rfl (fun w hF => OpV_fieldE (k := 2) Tryd.underlying42 rfl rfl nz9 rfl) rfl ?_
  refine lxE_v hS rfl rfl (fun w hF => G_loadF Tryd.underlying9 rfl rfl (ha0.now hF.fr) hx_2 rfl rfl) rfl ?_
  refine lxE_v hS rfl rfl (fun w hF => OpV_move rfl) rfl ?_
  refine lxE_v hS rfl rfl (fun w hF => OpV_move rfl) rfl ?_
  obtain ⟨x_3, hx_3, h⟩ := obind_some h
  refine lxE_v hS rfl rfl (fun w hF => G_ix Tryd.underlying37 ti42 rfl rfl (ha0.now hF.fr) hx_3) rfl ?_
  refine lxE_v hS rfl rfl (fun w hF => OpV_fieldE (k := 0) Tryd.underlying42 rfl rfl nz3 rfl) rfl ?_
  refine lxE_v hS rfl rfl (fun w hF => G_loadF Tryd.underlying3 rfl rfl (ha0.now hF.fr) hx_3 rfl rfl) rfl ?_
  refine lxE_v hS rfl rfl (fun w hF => OpV_move rfl) rfl ?_
  refine lxE_v hS rfl rfl (fun w hF => OpV_bin rfl rfl (b_ieql _ x_3.1 a2)) rfl ?_
  refine lxE_v hS rfl rfl (fun w hF => OpV_assign rfl) rfl ?_
  refine lxE_v hS rfl rfl (fun w hF => OpV_assign rfl) rfl ?_
  refine lxE_v hS rfl rfl (fun w hF => OpV_assign rfl) rfl ?_
  refine lxE_nil hS ?_
  refine QE_then_n ?_
  refine wpC_ret ?_
  cases h
  exact QE_ret3 rfl rfl rfl rfl ⟨rfl, hS⟩
theorem c_ref31_audience (w0 : World) (a0 : List (Int × UInt64 × (List UInt8) × Int)) (va0 : Value) (ha0 : RP [] w0 (eP eI (eP e64 (eP eS eI))) va0 a0) (r : List (List UInt8) × Bool × Bool)
  (h : F.ref31_audience a0 = some r) : Calls Tryd.prog 33 #[va0] w0 (Ret fun v w => ∃ u0 : Value, v = .tuple #[u0, vB r.2.1, vB r.2.2] ∧ St [] w0 w [own eS u0 r.1]) := by
 refine calls_at 59 Tryd.func33 rfl rfl rfl ?_
 have hS := St.start w0
 refine wpC_le [(0, va0)] ⟨rfl, trivial⟩ ?_
 unfold F.ref31_audience at h
 refine wpC_seq ?_
 refine wpC_region ?_
 refine wpR_v (OpV_assign rfl) rfl ?_
 refine wpR_v (OpV_assign rfl) rfl ?_
 refine wpR_v (OpV_assign rfl) rfl ?_
 refine wpR_nil ?_
 refine QE_then_n ?_
 refine wpC_seq ?_
 refine wpC_region ?_
 refine wpR_v (OpV_move rfl) rfl ?_
 obtain ⟨x_1, hx_1, h⟩ := obind_some h
 refine wpR_call (by kernel_rfl) rfl (c_ref31_value _ a0 0 3 va0  (ha0.now hS.fr).rp _ hx_1) rfl ?_
 rintro _ w ⟨rfl, hS1⟩
 have hS := hS.call hS1
 simp only [List.cons_append, List.nil_append] at hS
 refine wpR_v (OpV_assign rfl) rfl ?_
 refine wpR_nil ?_
 refine QE_then_n ?_
 refine wpC_seq ?_
 refine wpC_seq ?_
 refine wpC_region ?_
 refine wpR_v (OpV_move rfl) rfl ?_
 refine wpR_v (OpV_bin rfl rfl (b_ilss _ x_1 0)) rfl ?_
 refine wpR_nil ?_
 refine QE_then_n ?_
 refine wpC_cond rfl (fun hb_28 => ?_) (fun hb_28 => ?_)
 ·have h := if_t h hb_28
  refine wpC_seq ?_
  refine wpC_region ?_
  refine wpR_v (OpV_assign rfl) rfl ?_
  refine wpR_v (OpV_assign rfl) rfl ?_
  refine wpR_v (OpV_assign rfl) rfl ?_
  refine wpR_nil ?_
  refine QE_then_n ?_
  refine wpC_ret ?_
  refine QE_then_r ?_
  cases h
  exact QE_ret3 rfl rfl rfl rfl ⟨.slice none 0 0, rfl, (hS.nil eS).pick [0] (by decide) rfl⟩
 ·have h := if_f h hb_28
  refine wpC_skip ?_
  refine QE_then_n ?_
  refine wpC_seq ?_
  refine wpC_seq ?_
  refine wpC_region ?_
  refine wpR_v (OpV_move rfl) rfl ?_
  refine wpR_v (OpV_move rfl) rfl ?_
  obtain ⟨x_2, hx_2, h⟩ := obind_some h
  refine wpR_v (G_ix Tryd.underlying37 ti42 rfl rfl (ha0.now hS.fr) hx_2) rfl ?_
  refine wpR_v (OpV_fieldE (k := 0) Tryd.underlying42 rfl rfl nz3 rfl) rfl ?_
  refine wpR_v (G_loadF Tryd.underlying3 rfl rfl (ha0.now hS.fr) hx_2 rfl rfl) rfl ?_
  refine wpR_v (OpV_bin rfl rfl (b_ieql _ x_2.1 3)) rfl ?_
  refine wpR_nil ?_
  refine QE_then_n ?_
  refine wpC_cond rfl (fun hb_27 => ?_) (fun hb_27 => ?_)
  ·have h := if_t h hb_27
   refine wpC_seq ?_
   refine wpC_region ?_
   refine wpR_v (OpV_move rfl) rfl ?_
   refine wpR_v (OpV_move rfl) rfl ?_
   obtain ⟨x_3, hx_3, h⟩ := obind_some h
   refine wpR_v (G_ix Tryd.underlying37 ti42 rfl rfl (ha0.now hS.fr) hx_3) rfl ?_
   refine wpR_v (OpV_fieldE (k := 2) Tryd.underlying42 rfl rfl nz9 rfl) rfl ?_
   refine wpR_v (G_loadF Tryd.underlying9 rfl rfl (ha0.now hS.fr) hx_3 rfl rfl) rfl ?_
   refine wpR_x (OpX_lit (e := eS) (l := ([x_3.2.2.1] : List (List UInt8))) (vs := [vS x_3.2.2.1]) Tryd.underlying25 ti9 rfl rfl rfl rfl (by decide) (by decide) hS) rfl ?_
   rintro v_4 w hS
   refine wpR_v (OpV_assign rfl) rfl ?_
   refine wpR_v (OpV_assign rfl) rfl ?_
   refine wpR_v (OpV_assign rfl) rfl ?_
   refine wpR_nil ?_
   refine QE_then_n ?_
   refine wpC_ret ?_
   refine QE_then_r ?_
   cases h
   exact QE_ret3 rfl rfl rfl rfl ⟨v_4, rfl, hS.pick [0] (by decide) rfl⟩
  ·have h := if_f h hb_27
   refine wpC_skip ?_
   refine QE_then_n ?_
   refine wpC_seq ?_
   refine wpC_seq ?_
   refine wpC_region ?_
   refine wpR_v (OpV_move rfl) rfl ?_
   refine wpR_v (OpV_move rfl) rfl ?_
   obtain ⟨x_6, hx_6, h⟩ := obind_some h
   refine wpR_v (G_ix Tryd.underlying37 ti42 rfl rfl (ha0.now hS.fr) hx_6) rfl ?_
   refine wpR_v (OpV_fieldE (k := 0) Tryd.underlying42 rfl rfl nz3 rfl) rfl ?_
   refine wpR_v (G_loadF Tryd.underlying3 rfl rfl (ha0.now hS.fr) hx_6 rfl rfl) rfl ?_
   refine wpR_v (OpV_bin rfl rfl (b_ineq _ x_6.1 4)) rfl ?_
   refine wpR_nil ?_
   refine QE_then_n ?_
   refine wpC_cond rfl (fun hb_26 => ?_) (fun hb_26 => ?_)
   ·have h := if_t h hb_26
    refine wpC_seq ?_
    refine wpC_region ?_
    refine wpR_v (OpV_assign rfl) rfl ?_
    refine wpR_v (OpV_assign rfl) rfl ?_
    refine wpR_v (OpV_assign rfl) rfl ?_
    refine wpR_nil ?_
    refine QE_then_n ?_
    refine wpC_ret ?_
    refine QE_then_r ?_
    cases h
    exact QE_ret3 rfl rfl rfl rfl ⟨.slice none 0 0, rfl, (hS.nil eS).pick [0] (by decide) rfl⟩
   ·have h := if_f h hb_26
    refine wpC_skip ?_
    refine QE_then_n ?_
    refine wpC_seq ?_
    refine wpC_region ?_
    refine wpR_v (OpV_assign rfl) rfl ?_
    refine wpR_nil ?_
    refine QE_then_n ?_
    refine wpC_seq ?_
    refine wpC_region ?_
    refine wpR_v (OpV_move rfl) rfl ?_
    refine wpR_v (OpV_bin rfl rfl (b_iadd _ x_1 1)) rfl ?_
    refine wpR_v (OpV_assign rfl) rfl ?_
    refine wpR_nil ?_
    refine QE_then_n ?_
    refine wpC_seq ?_
    refine wpC_seq ?_
    refine wpC_region ?_
    refine wpR_v (OpV_assign rfl) rfl ?_
    refine wpR_nil ?_
    refine QE_then_n ?_
    refine wpC_block ?_
    refine wpC_le [(0, va0), (5, vI x_1), (6, .slice none 0 0), (7, vI (wI (x_1 + 1))), (8, vI 0)] ⟨rfl, rfl, rfl, rfl, rfl, trivial⟩ ?_
    refine loop_ind (F.ref31_audience_L1 a0 x_1) (fun (s : List (List UInt8) × Int × Int) L w => ∃ (v_8 : Value), L = [(0, va0), (5, vI x_1), (6, v_8), (7, vI s.2.1), (8, vI s.2.2)] ∧ St [] w0 w [own eS v_8 s.1]) ?_ ([], wI (x_1 + 1), 0) ⟨.slice none 0 0, rfl, (hS.nil eS)⟩ h
    rintro k_25 ⟨x_7, x_10, x_11⟩ L w q_14 hI ih_13 h hk_12
    try dsimp only at hI
    obtain ⟨v_8, rfl, hS⟩ := hI
    unfold F.ref31_audience_L1 at h
    refine wpC_seq ?_
    refine wpC_seq ?_
    refine wpC_region ?_
    refine wpR_v (OpV_move rfl) rfl ?_
    refine wpR_v (OpV_move rfl) rfl ?_
    refine wpR_v (OpV_move rfl) rfl ?_
    obtain ⟨x_15, hx_15, h⟩ := obind_some h
    refine wpR_v (G_ix Tryd.underlying37 ti42 rfl rfl (ha0.now hS.fr) hx_15) rfl ?_
    refine wpR_v (OpV_fieldE (k := 3) Tryd.underlying42 rfl rfl nz3 rfl) rfl ?_
    refine wpR_v (G_loadF Tryd.underlying3 rfl rfl (ha0.now hS.fr) hx_15 rfl rfl) rfl ?_
    refine wpR_v (OpV_bin rfl rfl (b_ilss _ x_11 x_15.2.2.2)) rfl ?_
    refine wpR_nil ?_
    refine QE_then_n ?_
    refine wpC_cond rfl (fun hb_24 => ?_) (fun hb_24 => ?_)
    ·have h := if_t h hb_24
     refine wpC_skip ?_
     refine QE_then_n ?_
     refine wpC_seq ?_
     refine wpC_block ?_
     refine wpC_seq ?_
     refine wpC_seq ?_
     refine wpC_region ?_
     refine wpR_v (OpV_move rfl) rfl ?_
     refine wpR_v (OpV_move rfl) rfl ?_
     obtain ⟨x_16, hx_16, h⟩ := obind_some h
     refine wpR_v (G_ix Tryd.underlying37 ti42 rfl rfl (ha0.now hS.fr) hx_16) rfl ?_
     refine wpR_v (OpV_fieldE (k := 0) Tryd.underlying42 rfl rfl nz3 rfl) rfl ?_
     refine wpR_v (G_loadF Tryd.underlying3 rfl rfl (ha0.now hS.fr) hx_16 rfl rfl) rfl ?_
     refine wpR_v (OpV_bin rfl rfl (b_ineq _ x_16.1 3)) rfl ?_
     refine wpR_nil ?_
     refine QE_then_n ?_
     refine wpC_cond rfl (fun hb_23 => ?_) (fun hb_23 => ?_)
     ·have h := if_t h hb_23
      refine wpC_seq ?_
      refine wpC_region ?_
      refine wpR_v (OpV_assign rfl) rfl ?_
      refine wpR_v (OpV_assign rfl) rfl ?_
      refine wpR_v (OpV_assign rfl) rfl ?_
      refine wpR_nil ?_
      refine QE_then_n ?_
      refine wpC_ret ?_
      refine QE_then_r ?_
      refine QE_blk_r ?_
      refine QE_then_r ?_
      refine QE_then_r ?_
      have h := oinr_some h hk_12
      refine QE_blk_r ?_
      refine QE_then_r ?_
      cases h
      exact QE_ret3 rfl rfl rfl rfl ⟨.slice none 0 0, rfl, (hS.nil eS).pick [0] (by decide) rfl⟩
     ·have h := if_f h hb_23
      refine wpC_skip ?_
      refine QE_then_n ?_
      refine wpC_seq ?_
      refine wpC_region ?_
      refine wpR_v (OpV_move rfl) rfl ?_
      refine wpR_v (OpV_move rfl) rfl ?_
      refine wpR_v (OpV_move rfl) rfl ?_
      obtain ⟨x_17, hx_17, h⟩ := obind_some h
      refine wpR_v (G_ix Tryd.underlying37 ti42 rfl rfl (ha0.now hS.fr) hx_17) rfl ?_
      refine wpR_v (OpV_fieldE (k := 2) Tryd.underlying42 rfl rfl nz9 rfl) rfl ?_
      refine wpR_v (G_loadF Tryd.underlying9 rfl rfl (ha0.now hS.fr) hx_17 rfl rfl) rfl ?_
      refine wpR_x (OpX_lit (e := eS) (l := ([x_17.2.2.1] : List (List UInt8))) (vs := [vS x_17.2.2.1]) Tryd.underlying25 ti9 rfl rfl rfl rfl (by decide) (by decide) hS) rfl ?_
      rintro v_18 w hS
      obtain ⟨x_20, hx_20, h⟩ := obind_some h
      refine wpR_x (G_append Tryd.underlying25 ti9 rfl rfl rfl hS (i := 1) rfl (hS.ro 0 rfl) hx_20) rfl ?_
      rintro v_21 w hS
      refine wpR_v (OpV_assign rfl) rfl ?_
      refine wpR_nil ?_
      refine QE_then_n ?_
      refine wpC_region ?_
      refine wpR_v (OpV_move rfl) rfl ?_
      refine wpR_v (OpV_bin rfl rfl (b_iadd _ x_10 1)) rfl ?_
      refine wpR_v (OpV_assign rfl) rfl ?_
      refine wpR_nil ?_
      refine QE_blk_n ?_
      refine QE_then_n ?_
      refine wpC_region ?_
      refine wpR_v (OpV_move rfl) rfl ?_
      refine wpR_v (OpV_bin rfl rfl (b_iadd _ x_11 1)) rfl ?_
      refine wpR_v (OpV_assign rfl) rfl ?_
      refine wpR_nil ?_
      exact QE_rnd (wpN_le _ (by exact ⟨rfl, rfl, rfl, rfl, rfl, trivial⟩) (ih_13 (x_20, wI (x_10 + 1), wI (x_11 + 1)) _ _ ⟨v_21, rfl, (hS.pick [1] (by decide) rfl)⟩ (oinl_some h hk_12)))
    ·have h := if_f h hb_24
     refine wpC_exit ?_
     refine QE_then_x ?_
     refine QE_then_x ?_
     have h := oinr_some h hk_12
     refine QE_blk_x ?_
     refine QE_then_n ?_
     refine wpC_seq ?_
     refine wpC_region ?_
     refine wpR_v (OpV_move rfl) rfl ?_
     refine wpR_v (OpV_assign rfl) rfl ?_
     refine wpR_v (OpV_assign rfl) rfl ?_
     refine wpR_v (OpV_assign rfl) rfl ?_
     refine wpR_nil ?_
     refine QE_then_n ?_
     refine wpC_ret ?_
     cases h
     exact QE_ret3 rfl rfl rfl rfl ⟨v_8, rfl, hS.pick [0] (by decide) rfl⟩
theorem c_ref31_time (w0 : World) (a0 : List (Int × UInt64 × (List UInt8) × Int)) (a1 : UInt64) (va0 : Value) (ha0 : RP [] w0 (eP eI (eP e64 (eP eS eI))) va0 a0) (r : Bool × Int × Bool)
  (h : F.ref31_time a0 a1 = some r) : Calls Tryd.prog 34 #[va0, v64 a1] w0 (Ret fun v w => v = .tuple #[.agg #[vB r.1, vI r.2.1], vB r.2.2] ∧ St [] w0 w []) := by
 refine calls_at 45 Tryd.func34 rfl rfl rfl ?_
 have hS := St.start w0
 refine wpC_le [(0, va0), (1, v64 a1)] ⟨rfl, rfl, trivial⟩ ?_
 unfold F.ref31_time at h
 refine wpC_seq ?_
 refine wpC_region ?_
 refine wpR_x (OpX_alloc (cs := [vB false, vI 0]) tz27 rfl hS) rfl ?_
 rintro _ w ⟨b_1, rfl, hS⟩
 refine wpR_v (OpV_assign rfl) rfl ?_
 refine wpR_nil ?_
 refine QE_then_n ?_
 refine wpC_seq ?_
 refine wpC_region ?_
 refine wpR_v (OpV_move rfl) rfl ?_
 refine wpR_v (OpV_move rfl) rfl ?_
 obtain ⟨x_3, hx_3, h⟩ := obind_some h
 refine wpR_call (by kernel_rfl) rfl (c_ref31_value _ a0 0 a1 va0  (ha0.now hS.fr).rp _ hx_3) rfl ?_
 rintro _ w ⟨rfl, hS1⟩
 have hS := hS.call hS1
 simp only [List.cons_append, List.nil_append] at hS
 refine wpR_v (OpV_assign rfl) rfl ?_
 refine wpR_nil ?_
 refine QE_then_n ?_
 refine wpC_seq ?_
 refine wpC_seq ?_
 refine wpC_region ?_
 refine wpR_v (OpV_move rfl) rfl ?_
 refine wpR_v (OpV_bin rfl rfl (b_ilss _ x_3 0)) rfl ?_
 refine wpR_nil ?_
 refine QE_then_n ?_
 refine wpC_cond rfl (fun hb_16 => ?_) (fun hb_16 => ?_)
 ·have h := if_t h hb_16
  refine wpC_seq ?_
  refine wpC_region ?_
  refine wpR_v (OpV_build (vs := []) (cells := [vB false, vI 0]) rfl lay27 trivial rfl) rfl ?_
  refine wpR_y (OpY_stB (i := 0) (us := [vB false, vI 0]) rfl sz27 rfl rfl rfl ⟨rfl, rfl, trivial⟩ rfl hS) ?_
  intro w hS
  replace hS : St _ w0 w [OE.bx b_1 [vB false, vI 0]] := hS
  refine wpR_v (OpV_assign rfl) rfl ?_
  refine wpR_nil ?_
  refine QE_then_n ?_
  refine wpC_ret ?_
  refine QE_then_r ?_
  cases h
  exact QE_rv2 rfl ⟨_, rfl, run_ldAgg (us := [vB false, vI 0]) Tryd.underlying27 rfl sz27 (hS.bxs 0 rfl rfl)⟩ rfl ⟨rfl, hS.pick [] (by decide) rfl⟩
 ·have h := if_f h hb_16
  refine wpC_skip ?_
  refine QE_then_n ?_
  refine wpC_seq ?_
  refine seq_join (r := r) (fun (g : Bool) L w => L = [(0, va0), (4, pB b_1 0), (6, vI x_3), (27, vB g)] ∧ St [] w0 w [OE.bx b_1 [vB false, vI 0]]) (F.ref31_time_K1 a0 x_3) ?_ ?_
  ·rintro x_7 L w hJ h
   try dsimp only at hJ
   obtain ⟨rfl, hS⟩ := hJ
   unfold F.ref31_time_K1 at h
   refine wpC_cond rfl (fun hb_15 => ?_) (fun hb_15 => ?_)
   ·have h := if_t h hb_15
    refine wpC_seq ?_
    refine wpC_region ?_
    refine wpR_v (OpV_build (vs := []) (cells := [vB false, vI 0]) rfl lay27 trivial rfl) rfl ?_
    refine wpR_y (OpY_stB (i := 0) (us := [vB false, vI 0]) rfl sz27 rfl rfl rfl ⟨rfl, rfl, trivial⟩ rfl hS) ?_
    intro w hS
    replace hS : St _ w0 w [OE.bx b_1 [vB false, vI 0]] := hS
    refine wpR_v (OpV_assign rfl) rfl ?_
    refine wpR_nil ?_
    refine QE_then_n ?_
    refine wpC_ret ?_
    refine QE_then_r ?_
    cases h
    exact QE_rv2 rfl ⟨_, rfl, run_ldAgg (us := [vB false, vI 0]) Tryd.underlying27 rfl sz27 (hS.bxs 0 rfl rfl)⟩ rfl ⟨rfl, hS.pick [] (by decide) rfl⟩
   ·have h := if_f h hb_15
    refine wpC_skip ?_
    refine QE_then_n ?_
    refine wpC_seq ?_
    refine wpC_region ?_
    refine wpR_v (OpV_move rfl) rfl ?_
    refine wpR_v (OpV_move rfl) rfl ?_
    obtain ⟨x_9, hx_9, h⟩ := obind_some h
    refine wpR_v (G_ix Tryd.underlying37 ti42 rfl rfl (ha0.now hS.fr) hx_9) rfl ?_
    refine wpR_v (OpV_fieldE (k := 1) Tryd.underlying42 rfl rfl nz40 rfl) rfl ?_
    refine wpR_v (G_loadF Tryd.underlying40 rfl rfl (ha0.now hS.fr) hx_9 rfl rfl) rfl ?_
    refine wpR_v (OpV_conv rfl (cv_64_i Tryd.underlying40 Tryd.underlying2 x_9.2.1)) rfl ?_
    refine wpR_v (OpV_assign rfl) rfl ?_
    refine wpR_nil ?_
    refine QE_then_n ?_
    refine seq_join (r := r) (fun (g : Int) L w => L = [(4, pB b_1 0), (7, vI g)] ∧ St [] w0 w [OE.bx b_1 [vB false, vI 0]]) (F.ref31_time_K2) ?_ ?_
    ·rintro x_13 L w hJ h
     try dsimp only at hJ
     obtain ⟨rfl, hS⟩ := hJ
     unfold F.ref31_time_K2 at h
     refine wpC_seq ?_
     refine wpC_region ?_
     refine wpR_v (OpV_move rfl) rfl ?_
     refine wpR_v (OpV_build (vs := [(0, vB true, [vB true]), (1, vI x_13, [vI x_13])]) (cells := [vB true, vI x_13]) rfl lay27 ⟨rfl, rfl, trivial⟩ (by kernel_rfl)) rfl ?_
     refine wpR_y (OpY_stB (i := 0) (us := [vB true, vI x_13]) rfl sz27 rfl rfl rfl ⟨rfl, rfl, trivial⟩ rfl hS) ?_
     intro w hS
     replace hS : St _ w0 w [OE.bx b_1 [vB true, vI x_13]] := hS
     refine wpR_v (OpV_assign rfl) rfl ?_
     refine wpR_nil ?_
     refine QE_then_n ?_
     refine wpC_ret ?_
     cases h
     exact QE_rv2 rfl ⟨_, rfl, run_ldAgg (us := [vB true, vI x_13]) Tryd.underlying27 rfl sz27 (hS.bxs 0 rfl rfl)⟩ rfl ⟨rfl, hS.pick [] (by decide) rfl⟩
    ·intro hK_14
     refine wpC_seq ?_
     refine wpC_region ?_
     refine wpR_v (OpV_move rfl) rfl ?_
     refine wpR_v (OpV_move rfl) rfl ?_
     obtain ⟨x_10, hx_10, h⟩ := obind_some h
     refine wpR_v (G_ix Tryd.underlying37 ti42 rfl rfl (ha0.now hS.fr) hx_10) rfl ?_
     refine wpR_v (OpV_fieldE (k := 0) Tryd.underlying42 rfl rfl nz3 rfl) rfl ?_
     refine wpR_v (G_loadF Tryd.underlying3 rfl rfl (ha0.now hS.fr) hx_10 rfl rfl) rfl ?_
     refine wpR_v (OpV_bin rfl rfl (b_ieql _ x_10.1 1)) rfl ?_
     refine wpR_nil ?_
     refine QE_then_n ?_
     refine wpC_cond rfl (fun hb_12 => ?_) (fun hb_12 => ?_)
     ·have h := if_t h hb_12
      refine wpC_region ?_
      refine wpR_v (OpV_move rfl) rfl ?_
      refine wpR_v (OpV_bin rfl rfl (b_isub _ (-1) (wI (x_9.2.1.toNat : Int)))) rfl ?_
      obtain ⟨x_11, hx_11, h⟩ := olet_some h
      refine wpR_v (OpV_assign (v := vI x_11) (by rw [← hx_11]; rfl)) rfl ?_
      refine wpR_nil ?_
      refine QE_then_n ?_
      exact wpC_le _ (by exact ⟨rfl, rfl, trivial⟩) (hK_14 x_11 _ _ ⟨rfl, hS⟩ h)
     ·have h := if_f h hb_12
      refine wpC_skip ?_
      refine QE_then_n ?_
      exact wpC_le _ (by exact ⟨rfl, rfl, trivial⟩) (hK_14 (wI (x_9.2.1.toNat : Int)) _ _ ⟨rfl, hS⟩ h)
  ·intro hK_8
   refine wpC_region ?_
   refine wpR_v (OpV_move rfl) rfl ?_
   refine wpR_v (OpV_move rfl) rfl ?_
   obtain ⟨x_4, hx_4, h⟩ := obind_some h
   refine wpR_v (G_ix Tryd.underlying37 ti42 rfl rfl (ha0.now hS.fr) hx_4) rfl ?_
   refine wpR_v (OpV_fieldE (k := 0) Tryd.underlying42 rfl rfl nz3 rfl) rfl ?_
   refine wpR_v (G_loadF Tryd.underlying3 rfl rfl (ha0.now hS.fr) hx_4 rfl rfl) rfl ?_
   refine wpR_v (OpV_bin rfl rfl (b_igtr _ x_4.1 1)) rfl ?_
   refine wpR_v (OpV_move rfl) rfl ?_
   cases hb_5 : (decide ((1 : Int) < x_4.1))
   case true =>
    have h := if_t h hb_5
    try simp only [hb_5]
    refine wpR_gskip (b := true) (t := 20) rfl rfl rfl rfl ?_
    refine wpR_gskip (b := true) (t := 20) rfl rfl rfl rfl ?_
    refine wpR_gskip (b := true) (t := 20) rfl rfl rfl rfl ?_
    refine wpR_gskip (b := true) (t := 20) rfl rfl rfl rfl ?_
    refine wpR_gskip (b := true) (t := 20) rfl rfl rfl rfl ?_
    refine wpR_gskip (b := true) (t := 20) rfl rfl rfl rfl ?_
    refine wpR_v (OpV_pickT rfl rfl) rfl ?_
    refine wpR_nil ?_
    refine QE_then_n ?_
    exact wpC_le _ (by exact ⟨rfl, rfl, rfl, rfl, trivial⟩) (hK_8 true _ _ ⟨rfl, hS⟩ h)
   case false =>
    have h := if_f h hb_5
    try simp only [hb_5]
    refine wpR_gv (t := 20) rfl rfl (OpV_move rfl) rfl ?_
    refine wpR_gv (t := 20) rfl rfl (OpV_move rfl) rfl ?_
    obtain ⟨x_6, hx_6, h⟩ := obind_some h
    refine wpR_gv (t := 20) rfl rfl (G_ix Tryd.underlying37 ti42 rfl rfl (ha0.now hS.fr) hx_6) rfl ?_
    refine wpR_gv (t := 20) rfl rfl (OpV_fieldE (k := 1) Tryd.underlying42 rfl rfl nz40 rfl) rfl ?_
    refine wpR_gv (t := 20) rfl rfl (G_loadF Tryd.underlying40 rfl rfl (ha0.now hS.fr) hx_6 rfl rfl) rfl ?_
    refine wpR_gv (t := 20) rfl rfl (OpV_bin rfl rfl (b_gtr64 _ x_6.2.1 9223372036854775807)) rfl ?_
    refine wpR_v (OpV_pickF rfl rfl) rfl ?_
    refine wpR_nil ?_
    refine QE_then_n ?_
    exact wpC_le _ (by exact ⟨rfl, rfl, rfl, rfl, trivial⟩) (hK_8 (decide ((9223372036854775807 : UInt64) < x_6.2.1)) _ _ ⟨rfl, hS⟩ h)
theorem c_ref31_Claims (w0 : World) (a0 : List UInt8) (va0 : Value) (ha0 : RP [] w0 e8 va0 a0) (r : List (Int × (List UInt8) × (List UInt8) × Bool × Int × Int) × List UInt8 × Bool × List UInt8 × Bool × List (List UInt8) × Bool × List UInt8 × Bool × Bool × Int × Bool × Int × Bool × Int × Int)
  (h : F.ref31_Claims a0 = some r) : Calls Tryd.prog 10 #[va0] w0 (Ret fun v w => ∃ u0_0 u0_5 : Value, v = .tuple #[.agg #[u0_0, vS r.2.1, vB r.2.2.1, vS r.2.2.2.1, vB r.2.2.2.2.1, u0_5, vB r.2.2.2.2.2.2.1, vS r.2.2.2.2.2.2.2.1, vB r.2.2.2.2.2.2.2.2.1, vB r.2.2.2.2.2.2.2.2.2.1, vI r.2.2.2.2.2.2.2.2.2.2.1, vB r.2.2.2.2.2.2.2.2.2.2.2.1, vI r.2.2.2.2.2.2.2.2.2.2.2.2.1, vB r.2.2.2.2.2.2.2.2.2.2.2.2.2.1, vI r.2.2.2.2.2.2.2.2.2.2.2.2.2.2.1], vI r.2.2.2.2.2.2.2.2.2.2.2.2.2.2.2] ∧ St [] w0 w [own (eP eI (eP eS (eP eS (eP eB (eP eI eI))))) u0_0 r.1, own eS u0_5 r.2.2.2.2.2.1]) := by
 refine calls_at 121 Tryd.func10 rfl rfl rfl ?_
 have hS := St.start w0
 refine wpC_le [(0, va0)] ⟨rfl, trivial⟩ ?_
 unfold F.ref31_Claims at h
 refine wpC_seq ?_
 refine wpC_region ?_
 refine wpR_x (OpX_alloc (cs := [.slice none 0 0, vS [], vB false, vS [], vB false, .slice none 0 0, vB false, vS [], vB false, vB false, vI 0, vB false, vI 0, vB false, vI 0]) tz29 rfl hS) rfl ?_
 rintro _ w ⟨b_1, rfl, hS⟩
 refine wpR_v (OpV_assign rfl) rfl ?_
 refine wpR_nil ?_
 refine QE_then_n ?_
 refine wpC_seq ?_
 refine wpC_region ?_
 refine wpR_v (OpV_move rfl) rfl ?_
 obtain ⟨x_3, hx_3, h⟩ := obind_some h
 refine wpR_call (by kernel_rfl) rfl (c_ref30_Parse _ a0 va0  (ha0.now hS.fr).rp _ hx_3) rfl ?_
 rintro _ w ⟨v_4, rfl, hS1⟩
 have hS := hS.call hS1
 simp only [List.cons_append, List.nil_append] at hS
 refine wpR_v (OpV_move rfl) rfl ?_
 refine wpR_v (OpV_extract rfl rfl) rfl ?_
 refine wpR_v (OpV_extract rfl rfl) rfl ?_
 refine wpR_v (OpV_extract rfl rfl) rfl ?_
 refine wpR_v (OpV_assign rfl) rfl ?_
 refine wpR_v (OpV_assign rfl) rfl ?_
 refine wpR_v (OpV_assign rfl) rfl ?_
 refine wpR_nil ?_
 refine QE_then_n ?_
 refine wpC_seq ?_
 refine wpC_seq ?_
 refine wpC_region ?_
 refine wpR_v (OpV_move rfl) rfl ?_
 refine wpR_v (OpV_bin rfl rfl (b_ineq _ x_3.2.1 0)) rfl ?_
 refine wpR_nil ?_
 refine QE_then_n ?_
 refine wpC_cond rfl (fun hb_34 => ?_) (fun hb_34 => ?_)
 ·have h := if_t h hb_34
  refine wpC_seq ?_
  refine wpC_region ?_
  refine wpR_v (OpV_build (vs := []) (cells := [.slice none 0 0, vS [], vB false, vS [], vB false, .slice none 0 0, vB false, vS [], vB false, vB false, vI 0, vB false, vI 0, vB false, vI 0]) rfl lay29 trivial rfl) rfl ?_
  refine wpR_v (OpV_move rfl) rfl ?_
  refine wpR_y (OpY_stB (i := 1) (us := [.slice none 0 0, vS [], vB false, vS [], vB false, .slice none 0 0, vB false, vS [], vB false, vB false, vI 0, vB false, vI 0, vB false, vI 0]) rfl sz29 rfl rfl rfl ⟨rfl, rfl, rfl, rfl, rfl, rfl, rfl, rfl, rfl, rfl, rfl, rfl, rfl, rfl, rfl, trivial⟩ rfl hS) ?_
  intro w hS
  replace hS : St _ w0 w [own (eP eI (eP e64 (eP eS eI))) v_4 x_3.1, OE.bx b_1 [.slice none 0 0, vS [], vB false, vS [], vB false, .slice none 0 0, vB false, vS [], vB false, vB false, vI 0, vB false, vI 0, vB false, vI 0]] := hS
  refine wpR_v (OpV_assign rfl) rfl ?_
  refine wpR_nil ?_
  refine QE_then_n ?_
  refine wpC_ret ?_
  refine QE_then_r ?_
  cases h
  exact QE_rv2 rfl ⟨_, rfl, run_ldAgg (us := [.slice none 0 0, vS [], vB false, vS [], vB false, .slice none 0 0, vB false, vS [], vB false, vB false, vI 0, vB false, vI 0, vB false, vI 0]) Tryd.underlying29 rfl sz29 (hS.bxs 1 rfl rfl)⟩ rfl ⟨.slice none 0 0, .slice none 0 0, rfl, ((hS.nil (eP eI (eP eS (eP eS (eP eB (eP eI eI)))))).nil eS).pick [1, 0] (by decide) rfl⟩
 ·have h := if_f h hb_34
  refine wpC_skip ?_
  refine QE_then_n ?_
  refine wpC_seq ?_
  refine wpC_seq ?_
  refine wpC_region ?_
  refine wpR_v (OpV_move rfl) rfl ?_
  obtain ⟨x_6, hx_6, h⟩ := obind_some h
  refine wpR_v (G_ix Tryd.underlying37 ti42 rfl rfl (hS.ro 0 rfl) hx_6) rfl ?_
  refine wpR_v (OpV_fieldE (k := 0) Tryd.underlying42 rfl rfl nz3 rfl) rfl ?_
  refine wpR_v (G_loadF Tryd.underlying3 rfl rfl (hS.ro 0 rfl) hx_6 rfl rfl) rfl ?_
  refine wpR_v (OpV_bin rfl rfl (b_ineq _ x_6.1 5)) rfl ?_
  refine wpR_nil ?_
  refine QE_then_n ?_
  refine wpC_cond rfl (fun hb_33 => ?_) (fun hb_33 => ?_)
  ·have h := if_t h hb_33
   refine wpC_seq ?_
   refine wpC_region ?_
   refine wpR_v (OpV_build (vs := []) (cells := [.slice none 0 0, vS [], vB false, vS [], vB false, .slice none 0 0, vB false, vS [], vB false, vB false, vI 0, vB false, vI 0, vB false, vI 0]) rfl lay29 trivial rfl) rfl ?_
   refine wpR_y (OpY_stB (i := 1) (us := [.slice none 0 0, vS [], vB false, vS [], vB false, .slice none 0 0, vB false, vS [], vB false, vB false, vI 0, vB false, vI 0, vB false, vI 0]) rfl sz29 rfl rfl rfl ⟨rfl, rfl, rfl, rfl, rfl, rfl, rfl, rfl, rfl, rfl, rfl, rfl, rfl, rfl, rfl, trivial⟩ rfl hS) ?_
   intro w hS
   replace hS : St _ w0 w [own (eP eI (eP e64 (eP eS eI))) v_4 x_3.1, OE.bx b_1 [.slice none 0 0, vS [], vB false, vS [], vB false, .slice none 0 0, vB false, vS [], vB false, vB false, vI 0, vB false, vI 0, vB false, vI 0]] := hS
   refine wpR_v (OpV_assign rfl) rfl ?_
   refine wpR_nil ?_
   refine QE_then_n ?_
   refine wpC_ret ?_
   refine QE_then_r ?_
   cases h
   exact QE_rv2 rfl ⟨_, rfl, run_ldAgg (us := [.slice none 0 0, vS [], vB false, vS [], vB false, .slice none 0 0, vB false, vS [], vB false, vB false, vI 0, vB false, vI 0, vB false, vI 0]) Tryd.underlying29 rfl sz29 (hS.bxs 1 rfl rfl)⟩ rfl ⟨.slice none 0 0, .slice none 0 0, rfl, ((hS.nil (eP eI (eP eS (eP eS (eP eB (eP eI eI)))))).nil eS).pick [1, 0] (by decide) rfl⟩
  ·have h := if_f h hb_33
   refine wpC_skip ?_
   refine QE_then_n ?_
   refine wpC_seq ?_
   refine wpC_region ?_
   refine wpR_v (OpV_move rfl) rfl ?_
   obtain ⟨x_7, hx_7, h⟩ := obind_some h
   refine wpR_call (by kernel_rfl) rfl (c_ref31_said1 _ x_3.1 1 3 v_4  (hS.ro 0 rfl).rp _ hx_7) rfl ?_
   rintro _ w ⟨rfl, hS1⟩
   have hS := hS.call hS1
   simp only [List.cons_append, List.nil_append] at hS
   refine wpR_v (OpV_move rfl) rfl ?_
   refine wpR_v (OpV_extract rfl rfl) rfl ?_
   refine wpR_v (OpV_extract rfl rfl) rfl ?_
   refine wpR_v (OpV_extract rfl rfl) rfl ?_
   refine wpR_v (OpV_assign rfl) rfl ?_
   refine wpR_v (OpV_assign rfl) rfl ?_
   refine wpR_v (OpV_assign rfl) rfl ?_
   refine wpR_nil ?_
   refine QE_then_n ?_
   refine wpC_seq ?_
   refine wpC_region ?_
   refine wpR_v (OpV_move rfl) rfl ?_
   obtain ⟨x_8, hx_8, h⟩ := obind_some h
   refine wpR_call (by kernel_rfl) rfl (c_ref31_said1 _ x_3.1 2 3 v_4  (hS.ro 0 rfl).rp _ hx_8) rfl ?_
   rintro _ w ⟨rfl, hS1⟩
   have hS := hS.call hS1
   simp only [List.cons_append, List.nil_append] at hS
   refine wpR_v (OpV_move rfl) rfl ?_
   refine wpR_v (OpV_extract rfl rfl) rfl ?_
   refine wpR_v (OpV_extract rfl rfl) rfl ?_
   refine wpR_v (OpV_extract rfl rfl) rfl ?_
   refine wpR_v (OpV_assign rfl) rfl ?_
   refine wpR_v (OpV_assign rfl) rfl ?_
   refine wpR_v (OpV_assign rfl) rfl ?_
   refine wpR_nil ?_
   refine QE_then_n ?_
   refine wpC_seq ?_
   refine wpC_region ?_
   refine wpR_v (OpV_move rfl) rfl ?_
   obtain ⟨x_9, hx_9, h⟩ := obind_some h
   refine wpR_call (by kernel_rfl) rfl (c_ref31_audience _ x_3.1 v_4  (hS.ro 0 rfl).rp _ hx_9) rfl ?_
   rintro _ w ⟨v_10, rfl, hS1⟩
   have hS := hS.call hS1
   simp only [List.cons_append, List.nil_append] at hS
   refine wpR_v (OpV_move rfl) rfl ?_
   refine wpR_v (OpV_extract rfl rfl) rfl ?_
   refine wpR_v (OpV_extract rfl rfl) rfl ?_
   refine wpR_v (OpV_extract rfl rfl) rfl ?_
   refine wpR_v (OpV_assign rfl) rfl ?_
   refine wpR_v (OpV_assign rfl) rfl ?_
   refine wpR_v (OpV_assign rfl) rfl ?_
   refine wpR_nil ?_
   refine QE_then_n ?_
   refine wpC_seq ?_
   refine wpC_region ?_
   refine wpR_v (OpV_move rfl) rfl ?_
   obtain ⟨x_12, hx_12, h⟩ := obind_some h
   refine wpR_call (by kernel_rfl) rfl (c_ref31_time _ x_3.1 4 v_4  (hS.ro 1 rfl).rp _ hx_12) rfl ?_
   rintro _ w ⟨rfl, hS1⟩
   have hS := hS.call hS1
   simp only [List.cons_append, List.nil_append] at hS
   refine wpR_v (OpV_move rfl) rfl ?_
   refine wpR_v (OpV_extract rfl rfl) rfl ?_
   refine wpR_v (OpV_extract rfl rfl) rfl ?_
   refine wpR_x (OpX_alloc (cs := [vB false, vI 0]) tz27 rfl hS) rfl ?_
   rintro _ w ⟨b_13, rfl, hS⟩
   refine wpR_y (OpY_stB (i := 0) (us := [vB x_12.1, vI x_12.2.1]) rfl sz27 rfl rfl rfl ⟨rfl, rfl, trivial⟩ rfl hS) ?_
   intro w hS
   replace hS : St _ w0 w [OE.bx b_13 [vB x_12.1, vI x_12.2.1], own eS v_10 x_9.1, own (eP eI (eP e64 (eP eS eI))) v_4 x_3.1, OE.bx b_1 [.slice none 0 0, vS [], vB false, vS [], vB false, .slice none 0 0, vB false, vS [], vB false, vB false, vI 0, vB false, vI 0, vB false, vI 0]] := hS
   refine wpR_v (OpV_assign rfl) rfl ?_
   refine wpR_nil ?_
   refine QE_then_n ?_
   refine wpC_seq ?_
   refine wpC_region ?_
   refine wpR_v (OpV_move rfl) rfl ?_
   obtain ⟨x_15, hx_15, h⟩ := obind_some h
   refine wpR_call (by kernel_rfl) rfl (c_ref31_time _ x_3.1 5 v_4  (hS.ro 2 rfl).rp _ hx_15) rfl ?_
   rintro _ w ⟨rfl, hS1⟩
   have hS := hS.call hS1
   simp only [List.cons_append, List.nil_append] at hS
   refine wpR_v (OpV_move rfl) rfl ?_
   refine wpR_v (OpV_extract rfl rfl) rfl ?_
   refine wpR_v (OpV_extract rfl rfl) rfl ?_
   refine wpR_x (OpX_alloc (cs := [vB false, vI 0]) tz27 rfl hS) rfl ?_
   rintro _ w ⟨b_16, rfl, hS⟩
   refine wpR_y (OpY_stB (i := 0) (us := [vB x_15.1, vI x_15.2.1]) rfl sz27 rfl rfl rfl ⟨rfl, rfl, trivial⟩ rfl hS) ?_
   intro w hS
   replace hS : St _ w0 w [OE.bx b_16 [vB x_15.1, vI x_15.2.1], OE.bx b_13 [vB x_12.1, vI x_12.2.1], own eS v_10 x_9.1, own (eP eI (eP e64 (eP eS eI))) v_4 x_3.1, OE.bx b_1 [.slice none 0 0, vS [], vB false, vS [], vB false, .slice none 0 0, vB false, vS [], vB false, vB false, vI 0, vB false, vI 0, vB false, vI 0]] := hS
   refine wpR_v (OpV_assign rfl) rfl ?_
   refine wpR_nil ?_
   refine QE_then_n ?_
   refine wpC_seq ?_
   refine wpC_region ?_
   refine wpR_v (OpV_move rfl) rfl ?_
   obtain ⟨x_18, hx_18, h⟩ := obind_some h
   refine wpR_call (by kernel_rfl) rfl (c_ref31_time _ x_3.1 6 v_4  (hS.ro 3 rfl).rp _ hx_18) rfl ?_
   rintro _ w ⟨rfl, hS1⟩
   have hS := hS.call hS1
   simp only [List.cons_append, List.nil_append] at hS
   refine wpR_v (OpV_move rfl) rfl ?_
   refine wpR_v (OpV_extract rfl rfl) rfl ?_
   refine wpR_v (OpV_extract rfl rfl) rfl ?_
   refine wpR_x (OpX_alloc (cs := [vB false, vI 0]) tz27 rfl hS) rfl ?_
   rintro _ w ⟨b_19, rfl, hS⟩
   refine wpR_y (OpY_stB (i := 0) (us := [vB x_18.1, vI x_18.2.1]) rfl sz27 rfl rfl rfl ⟨rfl, rfl, trivial⟩ rfl hS) ?_
   intro w hS
   replace hS : St _ w0 w [OE.bx b_19 [vB x_18.1, vI x_18.2.1], OE.bx b_16 [vB x_15.1, vI x_15.2.1], OE.bx b_13 [vB x_12.1, vI x_12.2.1], own eS v_10 x_9.1, own (eP eI (eP e64 (eP eS eI))) v_4 x_3.1, OE.bx b_1 [.slice none 0 0, vS [], vB false, vS [], vB false, .slice none 0 0, vB false, vS [], vB false, vB false, vI 0, vB false, vI 0, vB false, vI 0]] := hS
   refine wpR_v (OpV_assign rfl) rfl ?_
   refine wpR_nil ?_
   refine QE_then_n ?_
   refine wpC_seq ?_
   refine wpC_region ?_
   refine wpR_v (OpV_move rfl) rfl ?_
   obtain ⟨x_21, hx_21, h⟩ := obind_some h
   refine wpR_call (by kernel_rfl) rfl (c_ref31_said1 _ x_3.1 7 2 v_4  (hS.ro 4 rfl).rp _ hx_21) rfl ?_
   rintro _ w ⟨rfl, hS1⟩
   have hS := hS.call hS1
   simp only [List.cons_append, List.nil_append] at hS
   refine wpR_v (OpV_move rfl) rfl ?_
   refine wpR_v (OpV_extract rfl rfl) rfl ?_
   refine wpR_v (OpV_extract rfl rfl) rfl ?_
   refine wpR_v (OpV_extract rfl rfl) rfl ?_
   refine wpR_v (OpV_assign rfl) rfl ?_
   refine wpR_v (OpV_assign rfl) rfl ?_
   refine wpR_v (OpV_assign rfl) rfl ?_
   refine wpR_nil ?_
   refine QE_then_n ?_
   refine wpC_seq ?_
   refine seq_join (r := r) (fun (g : Bool) L w => L = [(2, pB b_1 0), (7, vS x_7.1), (8, vB x_7.2.1), (10, vS x_8.1), (11, vB x_8.2.1), (13, v_10), (14, vB x_9.2.1), (16, pB b_13 0), (18, pB b_16 0), (20, pB b_19 0), (22, vS x_21.1), (23, vB x_21.2.1), (106, vB g)] ∧ St [] w0 w [OE.bx b_1 [.slice none 0 0, vS [], vB false, vS [], vB false, .slice none 0 0, vB false, vS [], vB false, vB false, vI 0, vB false, vI 0, vB false, vI 0], own eS v_10 x_9.1, OE.bx b_13 [vB x_12.1, vI x_12.2.1], OE.bx b_16 [vB x_15.1, vI x_15.2.1], OE.bx b_19 [vB x_18.1, vI x_18.2.1]]) (F.ref31_Claims_K1 x_7 x_8 x_9 x_12 x_15 x_18 x_21) ?_ ?_
   ·rintro x_28 L w hJ h
    try dsimp only at hJ
    obtain ⟨rfl, hS⟩ := hJ
    unfold F.ref31_Claims_K1 at h
    refine wpC_cond rfl (fun hb_32 => ?_) (fun hb_32 => ?_)
    ·have h := if_t h hb_32
     refine wpC_seq ?_
     refine wpC_region ?_
     refine wpR_v (OpV_build (vs := []) (cells := [.slice none 0 0, vS [], vB false, vS [], vB false, .slice none 0 0, vB false, vS [], vB false, vB false, vI 0, vB false, vI 0, vB false, vI 0]) rfl lay29 trivial rfl) rfl ?_
     refine wpR_y (OpY_stB (i := 0) (us := [.slice none 0 0, vS [], vB false, vS [], vB false, .slice none 0 0, vB false, vS [], vB false, vB false, vI 0, vB false, vI 0, vB false, vI 0]) rfl sz29 rfl rfl rfl ⟨rfl, rfl, rfl, rfl, rfl, rfl, rfl, rfl, rfl, rfl, rfl, rfl, rfl, rfl, rfl, trivial⟩ rfl hS) ?_
     intro w hS
     replace hS : St _ w0 w [OE.bx b_1 [.slice none 0 0, vS [], vB false, vS [], vB false, .slice none 0 0, vB false, vS [], vB false, vB false, vI 0, vB false, vI 0, vB false, vI 0], own eS v_10 x_9.1, OE.bx b_13 [vB x_12.1, vI x_12.2.1], OE.bx b_16 [vB x_15.1, vI x_15.2.1], OE.bx b_19 [vB x_18.1, vI x_18.2.1]] := hS
     refine wpR_v (OpV_assign rfl) rfl ?_
     refine wpR_nil ?_
     refine QE_then_n ?_
     refine wpC_ret ?_
     refine QE_then_r ?_
     cases h
     exact QE_rv2 rfl ⟨_, rfl, run_ldAgg (us := [.slice none 0 0, vS [], vB false, vS [], vB false, .slice none 0 0, vB false, vS [], vB false, vB false, vI 0, vB false, vI 0, vB false, vI 0]) Tryd.underlying29 rfl sz29 (hS.bxs 0 rfl rfl)⟩ rfl ⟨.slice none 0 0, .slice none 0 0, rfl, ((hS.nil (eP eI (eP eS (eP eS (eP eB (eP eI eI)))))).nil eS).pick [1, 0] (by decide) rfl⟩
    ·have h := if_f h hb_32
     refine wpC_skip ?_
     refine QE_then_n ?_
     refine wpC_seq ?_
     refine wpC_region ?_
     refine wpR_v (OpV_move rfl) rfl ?_
     refine wpR_v (OpV_move rfl) rfl ?_
     refine wpR_v (OpV_move rfl) rfl ?_
     refine wpR_v (OpV_move rfl) rfl ?_
     refine wpR_v (OpV_move rfl) rfl ?_
     refine wpR_v (OpV_move rfl) rfl ?_
     refine wpR_v (OpV_move rfl) rfl ?_
     refine wpR_v (OpV_move rfl) rfl ?_
     refine wpR_v (OpV_ldBs (us := [vB x_12.1, vI x_12.2.1]) Tryd.underlying27 rfl sz27 rfl (hS.bxs 2 rfl rfl)) rfl ?_
     refine wpR_v (OpV_ldBs (us := [vB x_15.1, vI x_15.2.1]) Tryd.underlying27 rfl sz27 rfl (hS.bxs 3 rfl rfl)) rfl ?_
     refine wpR_v (OpV_ldBs (us := [vB x_18.1, vI x_18.2.1]) Tryd.underlying27 rfl sz27 rfl (hS.bxs 4 rfl rfl)) rfl ?_
     refine wpR_v (OpV_build (vs := [(1, vS x_7.1, [vS x_7.1]), (2, vB x_7.2.1, [vB x_7.2.1]), (3, vS x_8.1, [vS x_8.1]), (4, vB x_8.2.1, [vB x_8.2.1]), (5, v_10, [v_10]), (6, vB x_9.2.1, [vB x_9.2.1]), (7, vS x_21.1, [vS x_21.1]), (8, vB x_21.2.1, [vB x_21.2.1]), (9, .agg #[vB x_12.1, vI x_12.2.1], [vB x_12.1, vI x_12.2.1]), (10, .agg #[vB x_15.1, vI x_15.2.1], [vB x_15.1, vI x_15.2.1]), (11, .agg #[vB x_18.1, vI x_18.2.1], [vB x_18.1, vI x_18.2.1])]) (cells := [.slice none 0 0, vS x_7.1, vB x_7.2.1, vS x_8.1, vB x_8.2.1, v_10, vB x_9.2.1, vS x_21.1, vB x_21.2.1, vB x_12.1, vI x_12.2.1, vB x_15.1, vI x_15.2.1, vB x_18.1, vI x_18.2.1]) rfl lay29 ⟨rfl, rfl, rfl, rfl, (cells_one (hS.ro 1 rfl).one), rfl, rfl, rfl, rfl, rfl, rfl, trivial⟩ (by kernel_rfl)) rfl ?_
     refine wpR_x (OpX_alloc (cs := [.slice none 0 0, vS [], vB false, vS [], vB false, .slice none 0 0, vB false, vS [], vB false, vB false, vI 0, vB false, vI 0, vB false, vI 0]) tz29 rfl hS) rfl ?_
     rintro _ w ⟨b_30, rfl, hS⟩
     refine wpR_y (OpY_stB (i := 0) (us := [.slice none 0 0, vS x_7.1, vB x_7.2.1, vS x_8.1, vB x_8.2.1, v_10, vB x_9.2.1, vS x_21.1, vB x_21.2.1, vB x_12.1, vI x_12.2.1, vB x_15.1, vI x_15.2.1, vB x_18.1, vI x_18.2.1]) rfl sz29 rfl rfl rfl ⟨rfl, rfl, rfl, rfl, rfl, (hS.ro 2 rfl).one, rfl, rfl, rfl, rfl, rfl, rfl, rfl, rfl, rfl, trivial⟩ rfl hS) ?_
     intro w hS
     replace hS : St _ w0 w [OE.bx b_30 [.slice none 0 0, vS x_7.1, vB x_7.2.1, vS x_8.1, vB x_8.2.1, v_10, vB x_9.2.1, vS x_21.1, vB x_21.2.1, vB x_12.1, vI x_12.2.1, vB x_15.1, vI x_15.2.1, vB x_18.1, vI x_18.2.1], OE.bx b_1 [.slice none 0 0, vS [], vB false, vS [], vB false, .slice none 0 0, vB false, vS [], vB false, vB false, vI 0, vB false, vI 0, vB false, vI 0], own eS v_10 x_9.1, OE.bx b_13 [vB x_12.1, vI x_12.2.1], OE.bx b_16 [vB x_15.1, vI x_15.2.1], OE.bx b_19 [vB x_18.1, vI x_18.2.1]] := hS
     refine wpR_nil ?_
     refine QE_then_n ?_
     refine wpC_seq ?_
     refine wpC_region ?_
     refine wpR_v (OpV_ldBs (us := [.slice none 0 0, vS x_7.1, vB x_7.2.1, vS x_8.1, vB x_8.2.1, v_10, vB x_9.2.1, vS x_21.1, vB x_21.2.1, vB x_12.1, vI x_12.2.1, vB x_15.1, vI x_15.2.1, vB x_18.1, vI x_18.2.1]) Tryd.underlying29 rfl sz29 rfl (hS.bxs 0 rfl rfl)) rfl ?_
     refine wpR_y (OpY_stB (i := 1) (us := [.slice none 0 0, vS x_7.1, vB x_7.2.1, vS x_8.1, vB x_8.2.1, v_10, vB x_9.2.1, vS x_21.1, vB x_21.2.1, vB x_12.1, vI x_12.2.1, vB x_15.1, vI x_15.2.1, vB x_18.1, vI x_18.2.1]) rfl sz29 rfl rfl rfl ⟨rfl, rfl, rfl, rfl, rfl, (hS.ro 2 rfl).one, rfl, rfl, rfl, rfl, rfl, rfl, rfl, rfl, rfl, trivial⟩ rfl hS) ?_
     intro w hS
     replace hS : St _ w0 w [OE.bx b_30 [.slice none 0 0, vS x_7.1, vB x_7.2.1, vS x_8.1, vB x_8.2.1, v_10, vB x_9.2.1, vS x_21.1, vB x_21.2.1, vB x_12.1, vI x_12.2.1, vB x_15.1, vI x_15.2.1, vB x_18.1, vI x_18.2.1], OE.bx b_1 [.slice none 0 0, vS x_7.1, vB x_7.2.1, vS x_8.1, vB x_8.2.1, v_10, vB x_9.2.1, vS x_21.1, vB x_21.2.1, vB x_12.1, vI x_12.2.1, vB x_15.1, vI x_15.2.1, vB x_18.1, vI x_18.2.1], own eS v_10 x_9.1, OE.bx b_13 [vB x_12.1, vI x_12.2.1], OE.bx b_16 [vB x_15.1, vI x_15.2.1], OE.bx b_19 [vB x_18.1, vI x_18.2.1]] := hS
     refine wpR_v (OpV_assign rfl) rfl ?_
     refine wpR_nil ?_
     refine QE_then_n ?_
     refine wpC_ret ?_
     cases h
     exact QE_rv2 rfl ⟨_, rfl, run_ldAgg (us := [.slice none 0 0, vS x_7.1, vB x_7.2.1, vS x_8.1, vB x_8.2.1, v_10, vB x_9.2.1, vS x_21.1, vB x_21.2.1, vB x_12.1, vI x_12.2.1, vB x_15.1, vI x_15.2.1, vB x_18.1, vI x_18.2.1]) Tryd.underlying29 rfl sz29 (hS.bxs 1 rfl rfl)⟩ rfl ⟨.slice none 0 0, v_10, rfl, (hS.nil (eP eI (eP eS (eP eS (eP eB (eP eI eI)))))).pick [0, 3] (by decide) rfl⟩
   ·intro hK_29
    refine wpC_region ?_
    refine wpR_v (OpV_move rfl) rfl ?_
    refine wpR_v (OpV_un rfl (u_not x_7.2.2)) rfl ?_
    refine wpR_v (OpV_move rfl) rfl ?_
    cases hb_22 : (!x_7.2.2)
    case true =>
     have h := if_t h hb_22
     try simp only [hb_22]
     refine wpR_gskip (b := true) (t := 83) rfl rfl rfl rfl ?_
     refine wpR_gskip (b := true) (t := 83) rfl rfl rfl rfl ?_
     refine wpR_v (OpV_pickT rfl rfl) rfl ?_
     refine wpR_v (OpV_move rfl) rfl ?_
     refine wpR_gskip (b := true) (t := 87) rfl rfl rfl rfl ?_
     refine wpR_gskip (b := true) (t := 87) rfl rfl rfl rfl ?_
     refine wpR_v (OpV_pickT rfl rfl) rfl ?_
     refine wpR_v (OpV_move rfl) rfl ?_
     refine wpR_gskip (b := true) (t := 91) rfl rfl rfl rfl ?_
     refine wpR_gskip (b := true) (t := 91) rfl rfl rfl rfl ?_
     refine wpR_v (OpV_pickT rfl rfl) rfl ?_
     refine wpR_v (OpV_move rfl) rfl ?_
     refine wpR_gskip (b := true) (t := 95) rfl rfl rfl rfl ?_
     refine wpR_gskip (b := true) (t := 95) rfl rfl rfl rfl ?_
     refine wpR_v (OpV_pickT rfl rfl) rfl ?_
     refine wpR_v (OpV_move rfl) rfl ?_
     refine wpR_gskip (b := true) (t := 99) rfl rfl rfl rfl ?_
     refine wpR_gskip (b := true) (t := 99) rfl rfl rfl rfl ?_
     refine wpR_v (OpV_pickT rfl rfl) rfl ?_
     refine wpR_v (OpV_move rfl) rfl ?_
     refine wpR_gskip (b := true) (t := 103) rfl rfl rfl rfl ?_
     refine wpR_gskip (b := true) (t := 103) rfl rfl rfl rfl ?_
     refine wpR_v (OpV_pickT rfl rfl) rfl ?_
     refine wpR_nil ?_
     refine QE_then_n ?_
     exact wpC_le _ (by exact ⟨rfl, rfl, rfl, rfl, rfl, rfl, rfl, rfl, rfl, rfl, rfl, rfl, rfl, trivial⟩) (hK_29 true _ _ ⟨rfl, (hS.pick [5, 3, 2, 1, 0] (by decide) rfl)⟩ h)
    case false =>
     have h := if_f h hb_22
     try simp only [hb_22]
     refine wpR_gv (t := 83) rfl rfl (OpV_move rfl) rfl ?_
     refine wpR_gv (t := 83) rfl rfl (OpV_un rfl (u_not x_8.2.2)) rfl ?_
     refine wpR_v (OpV_pickF rfl rfl) rfl ?_
     refine wpR_v (OpV_move rfl) rfl ?_
     cases hb_23 : (!x_8.2.2)
     case true =>
      have h := if_t h hb_23
      try simp only [hb_23]
      refine wpR_gskip (b := true) (t := 87) rfl rfl rfl rfl ?_
      refine wpR_gskip (b := true) (t := 87) rfl rfl rfl rfl ?_
      refine wpR_v (OpV_pickT rfl rfl) rfl ?_
      refine wpR_v (OpV_move rfl) rfl ?_
      refine wpR_gskip (b := true) (t := 91) rfl rfl rfl rfl ?_
      refine wpR_gskip (b := true) (t := 91) rfl rfl rfl rfl ?_
      refine wpR_v (OpV_pickT rfl rfl) rfl ?_
      refine wpR_v (OpV_move rfl) rfl ?_
      refine wpR_gskip (b := true) (t := 95) rfl rfl rfl rfl ?_
      refine wpR_gskip (b := true) (t := 95) rfl rfl rfl rfl ?_
      refine wpR_v (OpV_pickT rfl rfl) rfl ?_
      refine wpR_v (OpV_move rfl) rfl ?_
      refine wpR_gskip (b := true) (t := 99) rfl rfl rfl rfl ?_
      refine wpR_gskip (b := true) (t := 99) rfl rfl rfl rfl ?_
      refine wpR_v (OpV_pickT rfl rfl) rfl ?_
      refine wpR_v (OpV_move rfl) rfl ?_
      refine wpR_gskip (b := true) (t := 103) rfl rfl rfl rfl ?_
      refine wpR_gskip (b := true) (t := 103) rfl rfl rfl rfl ?_
      refine wpR_v (OpV_pickT rfl rfl) rfl ?_
      refine wpR_nil ?_
      refine QE_then_n ?_
      exact wpC_le _ (by exact ⟨rfl, rfl, rfl, rfl, rfl, rfl, rfl, rfl, rfl, rfl, rfl, rfl, rfl, trivial⟩) (hK_29 true _ _ ⟨rfl, (hS.pick [5, 3, 2, 1, 0] (by decide) rfl)⟩ h)
     case false =>
      have h := if_f h hb_23
      try simp only [hb_23]
      refine wpR_gv (t := 87) rfl rfl (OpV_move rfl) rfl ?_
      refine wpR_gv (t := 87) rfl rfl (OpV_un rfl (u_not x_9.2.2)) rfl ?_
      refine wpR_v (OpV_pickF rfl rfl) rfl ?_
      refine wpR_v (OpV_move rfl) rfl ?_
      cases hb_24 : (!x_9.2.2)
      case true =>
       have h := if_t h hb_24
       try simp only [hb_24]
       refine wpR_gskip (b := true) (t := 91) rfl rfl rfl rfl ?_
       refine wpR_gskip (b := true) (t := 91) rfl rfl rfl rfl ?_
       refine wpR_v (OpV_pickT rfl rfl) rfl ?_
       refine wpR_v (OpV_move rfl) rfl ?_
       refine wpR_gskip (b := true) (t := 95) rfl rfl rfl rfl ?_
       refine wpR_gskip (b := true) (t := 95) rfl rfl rfl rfl ?_
       refine wpR_v (OpV_pickT rfl rfl) rfl ?_
       refine wpR_v (OpV_move rfl) rfl ?_
       refine wpR_gskip (b := true) (t := 99) rfl rfl rfl rfl ?_
       refine wpR_gskip (b := true) (t := 99) rfl rfl rfl rfl ?_
       refine wpR_v (OpV_pickT rfl rfl) rfl ?_
       refine wpR_v (OpV_move rfl) rfl ?_
       refine wpR_gskip (b := true) (t := 103) rfl rfl rfl rfl ?_
       refine wpR_gskip (b := true) (t := 103) rfl rfl rfl rfl ?_
       refine wpR_v (OpV_pickT rfl rfl) rfl ?_
       refine wpR_nil ?_
       refine QE_then_n ?_
       exact wpC_le _ (by exact ⟨rfl, rfl, rfl, rfl, rfl, rfl, rfl, rfl, rfl, rfl, rfl, rfl, rfl, trivial⟩) (hK_29 true _ _ ⟨rfl, (hS.pick [5, 3, 2, 1, 0] (by decide) rfl)⟩ h)
      case false =>
       have h := if_f h hb_24
       try simp only [hb_24]
       refine wpR_gv (t := 91) rfl rfl (OpV_move rfl) rfl ?_
       refine wpR_gv (t := 91) rfl rfl (OpV_un rfl (u_not x_12.2.2)) rfl ?_
       refine wpR_v (OpV_pickF rfl rfl) rfl ?_
       refine wpR_v (OpV_move rfl) rfl ?_
       cases hb_25 : (!x_12.2.2)
       case true =>
        have h := if_t h hb_25
        try simp only [hb_25]
        refine wpR_gskip (b := true) (t := 95) rfl rfl rfl rfl ?_
        refine wpR_gskip (b := true) (t := 95) rfl rfl rfl rfl ?_
        refine wpR_v (OpV_pickT rfl rfl) rfl ?_
        refine wpR_v (OpV_move rfl) rfl ?_
        refine wpR_gskip (b := true) (t := 99) rfl rfl rfl rfl ?_
        refine wpR_gskip (b := true) (t := 99) rfl rfl rfl rfl ?_
        refine wpR_v (OpV_pickT rfl rfl) rfl ?_
        refine wpR_v (OpV_move rfl) rfl ?_
        refine wpR_gskip (b := true) (t := 103) rfl rfl rfl rfl ?_
        refine wpR_gskip (b := true) (t := 103) rfl rfl rfl rfl ?_
        refine wpR_v (OpV_pickT rfl rfl) rfl ?_
        refine wpR_nil ?_
        refine QE_then_n ?_
        exact wpC_le _ (by exact ⟨rfl, rfl, rfl, rfl, rfl, rfl, rfl, rfl, rfl, rfl, rfl, rfl, rfl, trivial⟩) (hK_29 true _ _ ⟨rfl, (hS.pick [5, 3, 2, 1, 0] (by decide) rfl)⟩ h)
       case false =>
        have h := if_f h hb_25
        try simp only [hb_25]
        refine wpR_gv (t := 95) rfl rfl (OpV_move rfl) rfl ?_
        refine wpR_gv (t := 95) rfl rfl (OpV_un rfl (u_not x_15.2.2)) rfl ?_
        refine wpR_v (OpV_pickF rfl rfl) rfl ?_
        refine wpR_v (OpV_move rfl) rfl ?_
        cases hb_26 : (!x_15.2.2)
        case true =>
         have h := if_t h hb_26
         try simp only [hb_26]
         refine wpR_gskip (b := true) (t := 99) rfl rfl rfl rfl ?_
         refine wpR_gskip (b := true) (t := 99) rfl rfl rfl rfl ?_
         refine wpR_v (OpV_pickT rfl rfl) rfl ?_
         refine wpR_v (OpV_move rfl) rfl ?_
         refine wpR_gskip (b := true) (t := 103) rfl rfl rfl rfl ?_
         refine wpR_gskip (b := true) (t := 103) rfl rfl rfl rfl ?_
         refine wpR_v (OpV_pickT rfl rfl) rfl ?_
         refine wpR_nil ?_
         refine QE_then_n ?_
         exact wpC_le _ (by exact ⟨rfl, rfl, rfl, rfl, rfl, rfl, rfl, rfl, rfl, rfl, rfl, rfl, rfl, trivial⟩) (hK_29 true _ _ ⟨rfl, (hS.pick [5, 3, 2, 1, 0] (by decide) rfl)⟩ h)
        case false =>
         have h := if_f h hb_26
         try simp only [hb_26]
         refine wpR_gv (t := 99) rfl rfl (OpV_move rfl) rfl ?_
         refine wpR_gv (t := 99) rfl rfl (OpV_un rfl (u_not x_18.2.2)) rfl ?_
         refine wpR_v (OpV_pickF rfl rfl) rfl ?_
         refine wpR_v (OpV_move rfl) rfl ?_
         cases hb_27 : (!x_18.2.2)
         case true =>
          have h := if_t h hb_27
          try simp only [hb_27]
          refine wpR_gskip (b := true) (t := 103) rfl rfl rfl rfl ?_
          refine wpR_gskip (b := true) (t := 103) rfl rfl rfl rfl ?_
          refine wpR_v (OpV_pickT rfl rfl) rfl ?_
          refine wpR_nil ?_
          refine QE_then_n ?_
          exact wpC_le _ (by exact ⟨rfl, rfl, rfl, rfl, rfl, rfl, rfl, rfl, rfl, rfl, rfl, rfl, rfl, trivial⟩) (hK_29 true _ _ ⟨rfl, (hS.pick [5, 3, 2, 1, 0] (by decide) rfl)⟩ h)
         case false =>
          have h := if_f h hb_27
          try simp only [hb_27]
          refine wpR_gv (t := 103) rfl rfl (OpV_move rfl) rfl ?_
          refine wpR_gv (t := 103) rfl rfl (OpV_un rfl (u_not x_21.2.2)) rfl ?_
          refine wpR_v (OpV_pickF rfl rfl) rfl ?_
          refine wpR_nil ?_
          refine QE_then_n ?_
          exact wpC_le _ (by exact ⟨rfl, rfl, rfl, rfl, rfl, rfl, rfl, rfl, rfl, rfl, rfl, rfl, rfl, trivial⟩) (hK_29 (!x_21.2.2) _ _ ⟨rfl, (hS.pick [5, 3, 2, 1, 0] (by decide) rfl)⟩ h)
end Go.Proofs
