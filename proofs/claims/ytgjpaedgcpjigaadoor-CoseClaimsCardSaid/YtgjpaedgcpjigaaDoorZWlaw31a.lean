import Derived.Test.YtgjpaedgcpjigaaDoorZW0
import Derived.Test.YtgjpaedgcpjigaaDoorGkFlaw31
import Derived.Test.YtgjpaedgcpjigaaDoorZWcoseb
import Derived.Test.YtgjpaedgcpjigaaDoorZWref31b
set_option linter.unusedVariables false
set_option linter.unusedSimpArgs false
set_option linter.unusedVariables false
set_option maxRecDepth 4000
namespace Go.Proofs
open Go Go.RowKit Go.Gk
theorem c_law31_roomy (w0 : World) (a0 : List UInt8) (va0 : Value) (ha0 : RP [] w0 e8 va0 a0) (r : (List UInt8 × Nat))
  (h : F.law31_roomy a0 = some r) : Calls Tryd.prog 8 #[va0] w0 (Ret fun v w => ∃ u0 : Value, v = slV u0 e8.sz 0 r.2 ∧ r.2 ≤ r.1.length ∧ St [] w0 w [own e8 u0 r.1]) := by
 refine calls_at 19 Tryd.func8 rfl rfl rfl ?_
 have hS := St.start w0
 refine wpC_le [(0, va0)] ⟨rfl, trivial⟩ ?_
 unfold F.law31_roomy at h
 refine wpC_seq ?_
 refine wpC_region ?_
 refine wpR_v (OpV_assign rfl) rfl ?_
 refine wpR_nil ?_
 refine QE_then_n ?_
 refine wpC_seq ?_
 refine wpC_region ?_
 refine wpR_v (OpV_assign rfl) rfl ?_
 refine wpR_nil ?_
 refine QE_then_n ?_
 refine wpC_seq ?_
 refine wpC_region ?_
 refine wpR_v (OpV_move rfl) rfl ?_
 refine wpR_v (OpV_move rfl) rfl ?_
 obtain ⟨x_1, hx_1, h⟩ := obind_some h
 refine wpR_x (G_append0 Tryd.underlying22 ti5 rfl rfl rfl hS (ha0.now hS.fr) hx_1) rfl ?_
 rintro v_2 w hS
 refine wpR_v (OpV_assign rfl) rfl ?_
 refine wpR_nil ?_
 refine QE_then_n ?_
 refine wpC_seq ?_
 refine wpC_seq ?_
 refine wpC_region ?_
 refine wpR_v (OpV_assign rfl) rfl ?_
 refine wpR_nil ?_
 refine QE_then_n ?_
 refine wpC_block ?_
 refine wpC_le [(0, va0), (3, v_2), (4, vI 0)] ⟨rfl, rfl, rfl, trivial⟩ ?_
 refine loop_ind (F.law31_roomy_L1 a0) (fun (s : List UInt8 × Int) L w => ∃ (v_5 : Value), L = [(0, va0), (3, v_5), (4, vI s.2)] ∧ St [] w0 w [own e8 v_5 s.1]) ?_ (x_1, 0) ⟨v_2, rfl, hS⟩ h
 rintro k_18 ⟨x_4, x_7⟩ L w q_10 hI ih_9 h hk_8
 try dsimp only at hI
 obtain ⟨v_5, rfl, hS⟩ := hI
 unfold F.law31_roomy_L1 at h
 refine wpC_seq ?_
 refine wpC_seq ?_
 refine wpC_region ?_
 refine wpR_v (OpV_move rfl) rfl ?_
 refine wpR_v (OpV_bin rfl rfl (b_ilss _ x_7 9)) rfl ?_
 refine wpR_nil ?_
 refine QE_then_n ?_
 refine wpC_cond rfl (fun hb_17 => ?_) (fun hb_17 => ?_)
 ·have h := if_t h hb_17
  refine wpC_skip ?_
  refine QE_then_n ?_
  refine wpC_seq ?_
  refine wpC_block ?_
  refine wpC_region ?_
  refine wpR_v (OpV_move rfl) rfl ?_
  refine wpR_x (OpX_lit (e := e8) (l := [165]) (vs := [v8 165]) Tryd.underlying22 ti5 rfl rfl rfl rfl (by decide) (by decide) hS) rfl ?_
  rintro v_11 w hS
  obtain ⟨x_13, hx_13, h⟩ := obind_some h
  refine wpR_x (G_append Tryd.underlying22 ti5 rfl rfl rfl hS (i := 1) rfl (hS.ro 0 rfl) hx_13) rfl ?_
  rintro v_14 w hS
  refine wpR_v (OpV_assign rfl) rfl ?_
  refine wpR_nil ?_
  refine QE_blk_n ?_
  refine QE_then_n ?_
  refine wpC_region ?_
  refine wpR_v (OpV_move rfl) rfl ?_
  refine wpR_v (OpV_bin rfl rfl (b_iadd _ x_7 1)) rfl ?_
  refine wpR_v (OpV_assign rfl) rfl ?_
  refine wpR_nil ?_
  exact QE_rnd (wpN_le _ (by exact ⟨rfl, rfl, rfl, trivial⟩) (ih_9 (x_13, wI (x_7 + 1)) _ _ ⟨v_14, rfl, (hS.pick [1] (by decide) rfl)⟩ (oinl_some h hk_8)))
 ·have h := if_f h hb_17
  refine wpC_exit ?_
  refine QE_then_x ?_
  refine QE_then_x ?_
  have h := oinr_some h hk_8
  refine QE_blk_x ?_
  refine QE_then_n ?_
  refine wpC_seq ?_
  refine wpC_region ?_
  refine wpR_v (OpV_move rfl) rfl ?_
  refine wpR_v (OpV_move rfl) rfl ?_
  refine wpR_v (OpV_len Tryd.underlying22 rfl (ha0.now hS.fr)) rfl ?_
  obtain ⟨hg_16, h⟩ := grd_some h
  refine wpR_v (G_slh Tryd.underlying22 ti5 rfl rfl (hS.ro 0 rfl) (tkO_of hg_16)) rfl ?_
  refine wpR_v (OpV_assign rfl) rfl ?_
  refine wpR_nil ?_
  refine QE_then_n ?_
  refine wpC_ret ?_
  cases h
  exact QE_ret1 rfl rfl ⟨v_5, rfl, hg_16.2, hS.pick [0] (by decide) rfl⟩
theorem c_law31_sameTexts (w0 : World) (a0 : List (List UInt8)) (a1 : List (List UInt8)) (va0 : Value) (va1 : Value) (ha0 : RP [] w0 eS va0 a0) (ha1 : RP [] w0 eS va1 a1) (r : Bool)
  (h : F.law31_sameTexts a0 a1 = some r) : Calls Tryd.prog 20 #[va0, va1] w0 (Ret fun v w => v = vB r ∧ St [] w0 w []) := by
 refine calls_at 26 Tryd.func20 rfl rfl rfl ?_
 have hS := St.start w0
 refine wpC_le [(0, va0), (1, va1)] ⟨rfl, rfl, trivial⟩ ?_
 unfold F.law31_sameTexts at h
 refine wpC_seq ?_
 refine wpC_region ?_
 refine wpR_v (OpV_assign rfl) rfl ?_
 refine wpR_nil ?_
 refine QE_then_n ?_
 refine wpC_seq ?_
 refine wpC_seq ?_
 refine wpC_region ?_
 refine wpR_v (OpV_move rfl) rfl ?_
 refine wpR_v (OpV_len Tryd.underlying25 rfl (ha0.now hS.fr)) rfl ?_
 refine wpR_v (OpV_move rfl) rfl ?_
 refine wpR_v (OpV_len Tryd.underlying25 rfl (ha1.now hS.fr)) rfl ?_
 refine wpR_v (OpV_bin rfl rfl (b_ineq _ (a0.length : Int) (a1.length : Int))) rfl ?_
 refine wpR_nil ?_
 refine QE_then_n ?_
 refine wpC_cond rfl (fun hb_10 => ?_) (fun hb_10 => ?_)
 ·have h := if_t h hb_10
  refine wpC_seq ?_
  refine wpC_region ?_
  refine wpR_v (OpV_assign rfl) rfl ?_
  refine wpR_nil ?_
  refine QE_then_n ?_
  refine wpC_ret ?_
  refine QE_then_r ?_
  cases h
  exact QE_ret1 rfl rfl ⟨rfl, hS⟩
 ·have h := if_f h hb_10
  refine wpC_skip ?_
  refine QE_then_n ?_
  refine wpC_seq ?_
  refine wpC_seq ?_
  refine wpC_region ?_
  refine wpR_v (OpV_assign rfl) rfl ?_
  refine wpR_nil ?_
  refine QE_then_n ?_
  refine wpC_block ?_
  refine wpC_le [(0, va0), (1, va1), (5, vI 0)] ⟨rfl, rfl, rfl, trivial⟩ ?_
  refine loop_ind (F.law31_sameTexts_L1 a0 a1) (fun (s : Int) L w => L = [(0, va0), (1, va1), (5, vI s)] ∧ St [] w0 w []) ?_ 0 ⟨rfl, hS⟩ h
  rintro k_9 x_1 L w q_4 hI ih_3 h hk_2
  try dsimp only at hI
  obtain ⟨rfl, hS⟩ := hI
  unfold F.law31_sameTexts_L1 at h
  refine wpC_seq ?_
  refine wpC_seq ?_
  refine wpC_region ?_
  refine wpR_v (OpV_move rfl) rfl ?_
  refine wpR_v (OpV_move rfl) rfl ?_
  refine wpR_v (OpV_len Tryd.underlying25 rfl (ha0.now hS.fr)) rfl ?_
  refine wpR_v (OpV_bin rfl rfl (b_ilss _ x_1 (a0.length : Int))) rfl ?_
  refine wpR_nil ?_
  refine QE_then_n ?_
  refine wpC_cond rfl (fun hb_8 => ?_) (fun hb_8 => ?_)
  ·have h := if_t h hb_8
   refine wpC_skip ?_
   refine QE_then_n ?_
   refine wpC_seq ?_
   refine wpC_block ?_
   refine wpC_seq ?_
   refine wpC_regionT (fun w' => St [] w0 w' []) (fun _ => true) hmix (fun _ _ _ hf => hf.2) (fun _ _ hf => hf) (by kernel_rfl) ?_
   have hS := hS.drew
   show lxE _ _ _ _ _ _ _ [0, 1, 2, 3, 4, 5, 6, 7, 8] _ _
   refine lxE_v hS rfl rfl (fun w hF => OpV_move rfl) rfl ?_
   refine lxE_v hS rfl rfl (fun w hF => OpV_move rfl) rfl ?_
   obtain ⟨x_5, hx_5, h⟩ := obind_some h
   refine lxE_v hS rfl rfl (fun w hF => G_ix Tryd.underlying25 ti9 rfl rfl (ha0.now hF.fr) hx_5) rfl ?_
   refine lxE_v hS rfl rfl (fun w hF => G_load Tryd.underlying9 rfl rfl (ha0.now hF.fr) hx_5 rfl) rfl ?_
   refine lxE_v hS rfl rfl (fun w hF => OpV_move rfl) rfl ?_
   refine lxE_v hS rfl rfl (fun w hF => OpV_move rfl) rfl ?_
   obtain ⟨x_6, hx_6, h⟩ := obind_some h
   refine lxE_v hS rfl rfl (fun w hF => G_ix Tryd.underlying25 ti9 rfl rfl (ha1.now hF.fr) hx_6) rfl ?_
   refine lxE_v hS rfl rfl (fun w hF => G_load Tryd.underlying9 rfl rfl (ha1.now hF.fr) hx_6 rfl) rfl ?_
   refine lxE_v hS rfl rfl (fun w hF => OpV_bin rfl rfl (b_sneq _ x_5 x_6)) rfl ?_
   refine lxE_nil hS ?_
   refine QE_then_n ?_
   refine wpC_cond rfl (fun hb_7 => ?_) (fun hb_7 => ?_)
   ·have h := if_t h hb_7
    refine wpC_seq ?_
    refine wpC_region ?_
    refine wpR_v (OpV_assign rfl) rfl ?_
    refine wpR_nil ?_
    refine QE_then_n ?_
    refine wpC_ret ?_
    refine QE_blk_r ?_
    refine QE_then_r ?_
    refine QE_then_r ?_
    have h := oinr_some h hk_2
    refine QE_blk_r ?_
    refine QE_then_r ?_
    cases h
    exact QE_ret1 rfl rfl ⟨rfl, hS⟩
   ·have h := if_f h hb_7
    refine wpC_skip ?_
    refine QE_blk_n ?_
    refine QE_then_n ?_
    refine wpC_region ?_
    refine wpR_v (OpV_move rfl) rfl ?_
    refine wpR_v (OpV_bin rfl rfl (b_iadd _ x_1 1)) rfl ?_
    refine wpR_v (OpV_assign rfl) rfl ?_
    refine wpR_nil ?_
    exact QE_rnd (wpN_le _ (by exact ⟨rfl, rfl, rfl, trivial⟩) (ih_3 (wI (x_1 + 1)) _ _ ⟨rfl, hS⟩ (oinl_some h hk_2)))
  ·have h := if_f h hb_8
   refine wpC_exit ?_
   refine QE_then_x ?_
   refine QE_then_x ?_
   have h := oinr_some h hk_2
   refine QE_blk_x ?_
   refine QE_then_n ?_
   refine wpC_seq ?_
   refine wpC_region ?_
   refine wpR_v (OpV_assign rfl) rfl ?_
   refine wpR_nil ?_
   refine QE_then_n ?_
   refine wpC_ret ?_
   cases h
   exact QE_ret1 rfl rfl ⟨rfl, hS⟩
theorem c_law31_sameClaims (w0 : World) (a0_0 : List (Int × (List UInt8) × (List UInt8) × Bool × Int × Int)) (a0_1 : List UInt8) (a0_2 : Bool) (a0_3 : List UInt8) (a0_4 : Bool) (a0_5 : List (List UInt8)) (a0_6 : Bool) (a0_7 : List UInt8) (a0_8 : Bool) (a0_9 : Bool) (a0_10 : Int) (a0_11 : Bool) (a0_12 : Int) (a0_13 : Bool) (a0_14 : Int) (a1_0 : List (Int × (List UInt8) × (List UInt8) × Bool × Int × Int)) (a1_1 : List UInt8) (a1_2 : Bool) (a1_3 : List UInt8) (a1_4 : Bool) (a1_5 : List (List UInt8)) (a1_6 : Bool) (a1_7 : List UInt8) (a1_8 : Bool) (a1_9 : Bool) (a1_10 : Int) (a1_11 : Bool) (a1_12 : Int) (a1_13 : Bool) (a1_14 : Int) (va0_0 : Value) (va0_5 : Value) (va1_0 : Value) (va1_5 : Value) (ha0_0 : RP [] w0 (eP eI (eP eS (eP eS (eP eB (eP eI eI))))) va0_0 a0_0) (ha0_5 : RP [] w0 eS va0_5 a0_5) (ha1_0 : RP [] w0 (eP eI (eP eS (eP eS (eP eB (eP eI eI))))) va1_0 a1_0) (ha1_5 : RP [] w0 eS va1_5 a1_5) (r : Bool)
  (h : F.law31_sameClaims a0_0 a0_1 a0_2 a0_3 a0_4 a0_5 a0_6 a0_7 a0_8 a0_9 a0_10 a0_11 a0_12 a0_13 a0_14 a1_0 a1_1 a1_2 a1_3 a1_4 a1_5 a1_6 a1_7 a1_8 a1_9 a1_10 a1_11 a1_12 a1_13 a1_14 = some r) : Calls Tryd.prog 11 #[.agg #[va0_0, vS a0_1, vB a0_2, vS a0_3, vB a0_4, va0_5, vB a0_6, vS a0_7, vB a0_8, vB a0_9, vI a0_10, vB a0_11, vI a0_12, vB a0_13, vI a0_14], .agg #[va1_0, vS a1_1, vB a1_2, vS a1_3, vB a1_4, va1_5, vB a1_6, vS a1_7, vB a1_8, vB a1_9, vI a1_10, vB a1_11, vI a1_12, vB a1_13, vI a1_14]] w0 (Ret fun v w => v = vB r ∧ St [] w0 w []) := by
 refine calls_at 92 Tryd.func11 rfl rfl rfl ?_
 have hS := St.start w0
 refine wpC_le [(0, .agg #[va0_0, vS a0_1, vB a0_2, vS a0_3, vB a0_4, va0_5, vB a0_6, vS a0_7, vB a0_8, vB a0_9, vI a0_10, vB a0_11, vI a0_12, vB a0_13, vI a0_14]), (1, .agg #[va1_0, vS a1_1, vB a1_2, vS a1_3, vB a1_4, va1_5, vB a1_6, vS a1_7, vB a1_8, vB a1_9, vI a1_10, vB a1_11, vI a1_12, vB a1_13, vI a1_14])] ⟨rfl, rfl, trivial⟩ ?_
 unfold F.law31_sameClaims at h
 refine wpC_seq ?_
 refine wpC_region ?_
 refine wpR_x (OpX_box (cs := [va0_0, vS a0_1, vB a0_2, vS a0_3, vB a0_4, va0_5, vB a0_6, vS a0_7, vB a0_8, vB a0_9, vI a0_10, vB a0_11, vI a0_12, vB a0_13, vI a0_14]) rfl rfl hS) rfl ?_
 rintro _ w ⟨b_1, rfl, hS⟩
 refine wpR_x (OpX_box (cs := [va1_0, vS a1_1, vB a1_2, vS a1_3, vB a1_4, va1_5, vB a1_6, vS a1_7, vB a1_8, vB a1_9, vI a1_10, vB a1_11, vI a1_12, vB a1_13, vI a1_14]) rfl rfl hS) rfl ?_
 rintro _ w ⟨b_3, rfl, hS⟩
 refine wpR_v (OpV_assign rfl) rfl ?_
 refine wpR_nil ?_
 refine QE_then_n ?_
 refine wpC_seq ?_
 refine wpC_region ?_
 refine wpR_v (OpV_fieldB (k := 1) Tryd.underlying29 rfl rfl nz9 rfl) rfl ?_
 refine wpR_v (OpV_ldB Tryd.underlying9 rfl rfl (hS.bxc 1 rfl 1)) rfl ?_
 refine wpR_v (OpV_fieldB (k := 1) Tryd.underlying29 rfl rfl nz9 rfl) rfl ?_
 refine wpR_v (OpV_ldB Tryd.underlying9 rfl rfl (hS.bxc 0 rfl 1)) rfl ?_
 refine wpR_v (OpV_bin rfl rfl (b_seql _ a0_1 a1_1)) rfl ?_
 refine wpR_v (OpV_move rfl) rfl ?_
 cases hb_5 : (a0_1 == a1_1)
 case true =>
  have h := if_t h hb_5
  try simp only [hb_5]
  refine wpR_gv (t := 10) rfl rfl (OpV_fieldB (k := 2) Tryd.underlying29 rfl rfl nz4 rfl) rfl ?_
  refine wpR_gv (t := 10) rfl rfl (OpV_ldB Tryd.underlying4 rfl rfl (hS.bxc 1 rfl 2)) rfl ?_
  refine wpR_gv (t := 10) rfl rfl (OpV_fieldB (k := 2) Tryd.underlying29 rfl rfl nz4 rfl) rfl ?_
  refine wpR_gv (t := 10) rfl rfl (OpV_ldB Tryd.underlying4 rfl rfl (hS.bxc 0 rfl 2)) rfl ?_
  refine wpR_gv (t := 10) rfl rfl (OpV_bin rfl rfl (b_beql _ a0_2 a1_2 Tryd.underlying4 rfl)) rfl ?_
  refine wpR_v (OpV_pickT rfl rfl) rfl ?_
  refine wpR_v (OpV_move rfl) rfl ?_
  cases hb_6 : (a0_2 == a1_2)
  case true =>
   have h := if_t h hb_6
   try simp only [hb_6]
   refine wpR_gv (t := 17) rfl rfl (OpV_fieldB (k := 3) Tryd.underlying29 rfl rfl nz9 rfl) rfl ?_
   refine wpR_gv (t := 17) rfl rfl (OpV_ldB Tryd.underlying9 rfl rfl (hS.bxc 1 rfl 3)) rfl ?_
   refine wpR_gv (t := 17) rfl rfl (OpV_fieldB (k := 3) Tryd.underlying29 rfl rfl nz9 rfl) rfl ?_
   refine wpR_gv (t := 17) rfl rfl (OpV_ldB Tryd.underlying9 rfl rfl (hS.bxc 0 rfl 3)) rfl ?_
   refine wpR_gv (t := 17) rfl rfl (OpV_bin rfl rfl (b_seql _ a0_3 a1_3)) rfl ?_
   refine wpR_v (OpV_pickT rfl rfl) rfl ?_
   refine wpR_v (OpV_move rfl) rfl ?_
   cases hb_7 : (a0_3 == a1_3)
   case true =>
    have h := if_t h hb_7
    try simp only [hb_7]
    refine wpR_gv (t := 24) rfl rfl (OpV_fieldB (k := 4) Tryd.underlying29 rfl rfl nz4 rfl) rfl ?_
    refine wpR_gv (t := 24) rfl rfl (OpV_ldB Tryd.underlying4 rfl rfl (hS.bxc 1 rfl 4)) rfl ?_
    refine wpR_gv (t := 24) rfl rfl (OpV_fieldB (k := 4) Tryd.underlying29 rfl rfl nz4 rfl) rfl ?_
    refine wpR_gv (t := 24) rfl rfl (OpV_ldB Tryd.underlying4 rfl rfl (hS.bxc 0 rfl 4)) rfl ?_
    refine wpR_gv (t := 24) rfl rfl (OpV_bin rfl rfl (b_beql _ a0_4 a1_4 Tryd.underlying4 rfl)) rfl ?_
    refine wpR_v (OpV_pickT rfl rfl) rfl ?_
    refine wpR_v (OpV_move rfl) rfl ?_
    cases hb_8 : (a0_4 == a1_4)
    case true =>
     have h := if_t h hb_8
     try simp only [hb_8]
     refine wpR_gv (t := 31) rfl rfl (OpV_fieldB (k := 5) Tryd.underlying29 rfl rfl nz25 rfl) rfl ?_
     refine wpR_gv (t := 31) rfl rfl (OpV_ldB Tryd.underlying25 rfl rfl (hS.bxc 1 rfl 5)) rfl ?_
     refine wpR_gv (t := 31) rfl rfl (OpV_fieldB (k := 5) Tryd.underlying29 rfl rfl nz25 rfl) rfl ?_
     refine wpR_gv (t := 31) rfl rfl (OpV_ldB Tryd.underlying25 rfl rfl (hS.bxc 0 rfl 5)) rfl ?_
     obtain ⟨x_9, hx_9, h⟩ := obind_some h
     refine wpR_gcall (t := 31) rfl rfl (by kernel_rfl) rfl (c_law31_sameTexts _ a0_5 a1_5 va0_5 va1_5  (ha0_5.now hS.fr).rp (ha1_5.now hS.fr).rp _ hx_9) rfl ?_
     rintro _ w ⟨rfl, hS1⟩
     have hS := hS.call hS1
     simp only [List.cons_append, List.nil_append] at hS
     refine wpR_v (OpV_pickT rfl rfl) rfl ?_
     refine wpR_v (OpV_move rfl) rfl ?_
     cases hb_10 : x_9
     case true =>
      have h := if_t h hb_10
      try simp only [hb_10]
      refine wpR_gv (t := 38) rfl rfl (OpV_fieldB (k := 6) Tryd.underlying29 rfl rfl nz4 rfl) rfl ?_
      refine wpR_gv (t := 38) rfl rfl (OpV_ldB Tryd.underlying4 rfl rfl (hS.bxc 1 rfl 6)) rfl ?_
      refine wpR_gv (t := 38) rfl rfl (OpV_fieldB (k := 6) Tryd.underlying29 rfl rfl nz4 rfl) rfl ?_
      refine wpR_gv (t := 38) rfl rfl (OpV_ldB Tryd.underlying4 rfl rfl (hS.bxc 0 rfl 6)) rfl ?_
      refine wpR_gv (t := 38) rfl rfl (OpV_bin rfl rfl (b_beql _ a0_6 a1_6 Tryd.underlying4 rfl)) rfl ?_
      refine wpR_v (OpV_pickT rfl rfl) rfl ?_
      refine wpR_v (OpV_move rfl) rfl ?_
      cases hb_11 : (a0_6 == a1_6)
      case true =>
       have h := if_t h hb_11
       try simp only [hb_11]
       refine wpR_gv (t := 45) rfl rfl (OpV_fieldB (k := 7) Tryd.underlying29 rfl rfl nz9 rfl) rfl ?_
       refine wpR_gv (t := 45) rfl rfl (OpV_ldB Tryd.underlying9 rfl rfl (hS.bxc 1 rfl 7)) rfl ?_
       refine wpR_gv (t := 45) rfl rfl (OpV_fieldB (k := 7) Tryd.underlying29 rfl rfl nz9 rfl) rfl ?_
       refine wpR_gv (t := 45) rfl rfl (OpV_ldB Tryd.underlying9 rfl rfl (hS.bxc 0 rfl 7)) rfl ?_
       refine wpR_gv (t := 45) rfl rfl (OpV_bin rfl rfl (b_seql _ a0_7 a1_7)) rfl ?_
       refine wpR_v (OpV_pickT rfl rfl) rfl ?_
       refine wpR_v (OpV_move rfl) rfl ?_
       cases hb_12 : (a0_7 == a1_7)
       case true =>
        have h := if_t h hb_12
        try simp only [hb_12]
        refine wpR_gv (t := 52) rfl rfl (OpV_fieldB (k := 8) Tryd.underlying29 rfl rfl nz4 rfl) rfl ?_
        refine wpR_gv (t := 52) rfl rfl (OpV_ldB Tryd.underlying4 rfl rfl (hS.bxc 1 rfl 8)) rfl ?_
        refine wpR_gv (t := 52) rfl rfl (OpV_fieldB (k := 8) Tryd.underlying29 rfl rfl nz4 rfl) rfl ?_
        refine wpR_gv (t := 52) rfl rfl (OpV_ldB Tryd.underlying4 rfl rfl (hS.bxc 0 rfl 8)) rfl ?_
        refine wpR_gv (t := 52) rfl rfl (OpV_bin rfl rfl (b_beql _ a0_8 a1_8 Tryd.underlying4 rfl)) rfl ?_
        refine wpR_v (OpV_pickT rfl rfl) rfl ?_
        refine wpR_v (OpV_move rfl) rfl ?_
        cases hb_13 : (a0_8 == a1_8)
        case true =>
         have h := if_t h hb_13
         try simp only [hb_13]
         refine wpR_gv (t := 59) rfl rfl (OpV_fieldB (k := 9) Tryd.underlying29 rfl rfl nz27 rfl) rfl ?_
         refine wpR_gv (t := 59) rfl rfl (OpV_ldBs (us := [vB a0_9, vI a0_10]) Tryd.underlying27 rfl sz27 rfl (hS.bxs 1 rfl rfl)) rfl ?_
         refine wpR_gv (t := 59) rfl rfl (OpV_fieldB (k := 9) Tryd.underlying29 rfl rfl nz27 rfl) rfl ?_
         refine wpR_gv (t := 59) rfl rfl (OpV_ldBs (us := [vB a1_9, vI a1_10]) Tryd.underlying27 rfl sz27 rfl (hS.bxs 0 rfl rfl)) rfl ?_
         refine wpR_gv (t := 59) rfl rfl (OpV_bin rfl rfl (agx (b' := (a0_9, a0_10) == (a1_9, a1_10)) (b_ageq Tryd.underlying27 sh27 eg27 (eqf_b rfl Tryd.underlying4 rfl rfl (eqf_i rfl Tryd.underlying2 rfl rfl eqf_nil))) (by simp only [Bool.and_true]; rfl))) rfl ?_
         refine wpR_v (OpV_pickT rfl rfl) rfl ?_
         refine wpR_v (OpV_move rfl) rfl ?_
         cases hb_14 : ((a0_9, a0_10) == (a1_9, a1_10))
         case true =>
          have h := if_t h hb_14
          try simp only [hb_14]
          refine wpR_gv (t := 66) rfl rfl (OpV_fieldB (k := 11) Tryd.underlying29 rfl rfl nz27 rfl) rfl ?_
          refine wpR_gv (t := 66) rfl rfl (OpV_ldBs (us := [vB a0_11, vI a0_12]) Tryd.underlying27 rfl sz27 rfl (hS.bxs 1 rfl rfl)) rfl ?_
          refine wpR_gv (t := 66) rfl rfl (OpV_fieldB (k := 11) Tryd.underlying29 rfl rfl nz27 rfl) rfl ?_
          refine wpR_gv (t := 66) rfl rfl (OpV_ldBs (us := [vB a1_11, vI a1_12]) Tryd.underlying27 rfl sz27 rfl (hS.bxs 0 rfl rfl)) rfl ?_
          refine wpR_gv (t := 66) rfl rfl (OpV_bin rfl rfl (agx (b' := (a0_11, a0_12) == (a1_11, a1_12)) (b_ageq Tryd.underlying27 sh27 eg27 (eqf_b rfl Tryd.underlying4 rfl rfl (eqf_i rfl Tryd.underlying2 rfl rfl eqf_nil))) (by simp only [Bool.and_true]; rfl))) rfl ?_
          refine wpR_v (OpV_pickT rfl rfl) rfl ?_
          refine wpR_v (OpV_move rfl) rfl ?_
          cases hb_15 : ((a0_11, a0_12) == (a1_11, a1_12))
          case true =>
           have h := if_t h hb_15
           try simp only [hb_15]
           refine wpR_gv (t := 73) rfl rfl (OpV_fieldB (k := 13) Tryd.underlying29 rfl rfl nz27 rfl) rfl ?_
           refine wpR_gv (t := 73) rfl rfl (OpV_ldBs (us := [vB a0_13, vI a0_14]) Tryd.underlying27 rfl sz27 rfl (hS.bxs 1 rfl rfl)) rfl ?_
           refine wpR_gv (t := 73) rfl rfl (OpV_fieldB (k := 13) Tryd.underlying29 rfl rfl nz27 rfl) rfl ?_
           refine wpR_gv (t := 73) rfl rfl (OpV_ldBs (us := [vB a1_13, vI a1_14]) Tryd.underlying27 rfl sz27 rfl (hS.bxs 0 rfl rfl)) rfl ?_
           refine wpR_gv (t := 73) rfl rfl (OpV_bin rfl rfl (agx (b' := (a0_13, a0_14) == (a1_13, a1_14)) (b_ageq Tryd.underlying27 sh27 eg27 (eqf_b rfl Tryd.underlying4 rfl rfl (eqf_i rfl Tryd.underlying2 rfl rfl eqf_nil))) (by simp only [Bool.and_true]; rfl))) rfl ?_
           refine wpR_v (OpV_pickT rfl rfl) rfl ?_
           refine wpR_v (OpV_move rfl) rfl ?_
           cases hb_16 : ((a0_13, a0_14) == (a1_13, a1_14))
           case true =>
            have h := if_t h hb_16
            try simp only [hb_16]
            refine wpR_gv (t := 80) rfl rfl (OpV_fieldB (k := 0) Tryd.underlying29 rfl rfl nz24 rfl) rfl ?_
            refine wpR_gv (t := 80) rfl rfl (OpV_ldB Tryd.underlying24 rfl rfl (hS.bxc 1 rfl 0)) rfl ?_
            refine wpR_gv (t := 80) rfl rfl (OpV_len Tryd.underlying24 rfl (ha0_0.now hS.fr)) rfl ?_
            refine wpR_gv (t := 80) rfl rfl (OpV_bin rfl rfl (b_ieql _ (a0_0.length : Int) 0)) rfl ?_
            refine wpR_v (OpV_pickT rfl rfl) rfl ?_
            refine wpR_v (OpV_move rfl) rfl ?_
            cases hb_17 : ((a0_0.length : Int) == 0)
            case true =>
             have h := if_t h hb_17
             try simp only [hb_17]
             refine wpR_gv (t := 86) rfl rfl (OpV_fieldB (k := 0) Tryd.underlying29 rfl rfl nz24 rfl) rfl ?_
             refine wpR_gv (t := 86) rfl rfl (OpV_ldB Tryd.underlying24 rfl rfl (hS.bxc 0 rfl 0)) rfl ?_
             refine wpR_gv (t := 86) rfl rfl (OpV_len Tryd.underlying24 rfl (ha1_0.now hS.fr)) rfl ?_
             refine wpR_gv (t := 86) rfl rfl (OpV_bin rfl rfl (b_ieql _ (a1_0.length : Int) 0)) rfl ?_
             refine wpR_v (OpV_pickT rfl rfl) rfl ?_
             refine wpR_v (OpV_assign rfl) rfl ?_
             refine wpR_nil ?_
             refine QE_then_n ?_
             refine wpC_ret ?_
             cases h
             exact QE_ret1 rfl rfl ⟨rfl, hS.pick [] (by decide) rfl⟩
            case false =>
             have h := if_f h hb_17
             try simp only [hb_17]
             refine wpR_gskip (b := false) (t := 86) rfl rfl rfl rfl ?_
             refine wpR_gskip (b := false) (t := 86) rfl rfl rfl rfl ?_
             refine wpR_gskip (b := false) (t := 86) rfl rfl rfl rfl ?_
             refine wpR_gskip (b := false) (t := 86) rfl rfl rfl rfl ?_
             refine wpR_v (OpV_pickF rfl rfl) rfl ?_
             refine wpR_v (OpV_assign rfl) rfl ?_
             refine wpR_nil ?_
             refine QE_then_n ?_
             refine wpC_ret ?_
             cases h
             exact QE_ret1 rfl rfl ⟨rfl, hS.pick [] (by decide) rfl⟩
           case false =>
            have h := if_f h hb_16
            try simp only [hb_16]
            refine wpR_gskip (b := false) (t := 80) rfl rfl rfl rfl ?_
            refine wpR_gskip (b := false) (t := 80) rfl rfl rfl rfl ?_
            refine wpR_gskip (b := false) (t := 80) rfl rfl rfl rfl ?_
            refine wpR_gskip (b := false) (t := 80) rfl rfl rfl rfl ?_
            refine wpR_v (OpV_pickF rfl rfl) rfl ?_
            refine wpR_v (OpV_move rfl) rfl ?_
            refine wpR_gskip (b := false) (t := 86) rfl rfl rfl rfl ?_
            refine wpR_gskip (b := false) (t := 86) rfl rfl rfl rfl ?_
            refine wpR_gskip (b := false) (t := 86) rfl rfl rfl rfl ?_
            refine wpR_gskip (b := false) (t := 86) rfl rfl rfl rfl ?_
            refine wpR_v (OpV_pickF rfl rfl) rfl ?_
            refine wpR_v (OpV_assign rfl) rfl ?_
            refine wpR_nil ?_
            refine QE_then_n ?_
            refine wpC_ret ?_
            cases h
            exact QE_ret1 rfl rfl ⟨rfl, hS.pick [] (by decide) rfl⟩
          case false =>
           have h := if_f h hb_15
           try simp only [hb_15]
           refine wpR_gskip (b := false) (t := 73) rfl rfl rfl rfl ?_
           refine wpR_gskip (b := false) (t := 73) rfl rfl rfl rfl ?_
           refine wpR_gskip (b := false) (t := 73) rfl rfl rfl rfl ?_
           refine wpR_gskip (b := false) (t := 73) rfl rfl rfl rfl ?_
           refine wpR_gskip (b := false) (t := 73) rfl rfl rfl rfl ?_
           refine wpR_v (OpV_pickF rfl rfl) rfl ?_
           refine wpR_v (OpV_move rfl) rfl ?_
           refine wpR_gskip (b := false) (t := 80) rfl rfl rfl rfl ?_
           refine wpR_gskip (b := false) (t := 80) rfl rfl rfl rfl ?_
           refine wpR_gskip (b := false) (t := 80) rfl rfl rfl rfl ?_
           refine wpR_gskip (b := false) (t := 80) rfl rfl rfl rfl ?_
           refine wpR_v (OpV_pickF rfl rfl) rfl ?_
           refine wpR_v (OpV_move rfl) rfl ?_
           refine wpR_gskip (b := false) (t := 86) rfl rfl rfl rfl ?_
           refine wpR_gskip (b := false) (t := 86) rfl rfl rfl rfl ?_
           refine wpR_gskip (b := false) (t := 86) rfl rfl rfl rfl ?_
           refine wpR_gskip (b := false) (t := 86) rfl rfl rfl rfl ?_
           refine wpR_v (OpV_pickF rfl rfl) rfl ?_
           refine wpR_v (OpV_assign rfl) rfl ?_
           refine wpR_nil ?_
           refine QE_then_n ?_
           refine wpC_ret ?_
           cases h
           exact QE_ret1 rfl rfl ⟨rfl, hS.pick [] (by decide) rfl⟩
         case false =>
          have h := if_f h hb_14
          try simp only [hb_14]
          refine wpR_gskip (b := false) (t := 66) rfl rfl rfl rfl ?_
          refine wpR_gskip (b := false) (t := 66) rfl rfl rfl rfl ?_
          refine wpR_gskip (b := false) (t := 66) rfl rfl rfl rfl ?_
          refine wpR_gskip (b := false) (t := 66) rfl rfl rfl rfl ?_
          refine wpR_gskip (b := false) (t := 66) rfl rfl rfl rfl ?_
          refine wpR_v (OpV_pickF rfl rfl) rfl ?_
          refine wpR_v (OpV_move rfl) rfl ?_
          refine wpR_gskip (b := false) (t := 73) rfl rfl rfl rfl ?_
          refine wpR_gskip (b := false) (t := 73) rfl rfl rfl rfl ?_
          refine wpR_gskip (b := false) (t := 73) rfl rfl rfl rfl ?_
          refine wpR_gskip (b := false) (t := 73) rfl rfl rfl rfl ?_
          refine wpR_gskip (b := false) (t := 73) rfl rfl rfl rfl ?_
          refine wpR_v (OpV_pickF rfl rfl) rfl ?_
          refine wpR_v (OpV_move rfl) rfl ?_
          refine wpR_gskip (b := false) (t := 80) rfl rfl rfl rfl ?_
          refine wpR_gskip (b := false) (t := 80) rfl rfl rfl rfl ?_
          refine wpR_gskip (b := false) (t := 80) rfl rfl rfl rfl ?_
          refine wpR_gskip (b := false) (t := 80) rfl rfl rfl rfl ?_
          refine wpR_v (OpV_pickF rfl rfl) rfl ?_
          refine wpR_v (OpV_move rfl) rfl ?_
          refine wpR_gskip (b := false) (t := 86) rfl rfl rfl rfl ?_
          refine wpR_gskip (b := false) (t := 86) rfl rfl rfl rfl ?_
          refine wpR_gskip (b := false) (t := 86) rfl rfl rfl rfl ?_
          refine wpR_gskip (b := false) (t := 86) rfl rfl rfl rfl ?_
          refine wpR_v (OpV_pickF rfl rfl) rfl ?_
          refine wpR_v (OpV_assign rfl) rfl ?_
          refine wpR_nil ?_
          refine QE_then_n ?_
          refine wpC_ret ?_
          cases h
          exact QE_ret1 rfl rfl ⟨rfl, hS.pick [] (by decide) rfl⟩
        case false =>
         have h := if_f h hb_13
         try simp only [hb_13]
         refine wpR_gskip (b := false) (t := 59) rfl rfl rfl rfl ?_
         refine wpR_gskip (b := false) (t := 59) rfl rfl rfl rfl ?_
         refine wpR_gskip (b := false) (t := 59) rfl rfl rfl rfl ?_
         refine wpR_gskip (b := false) (t := 59) rfl rfl rfl rfl ?_
         refine wpR_gskip (b := false) (t := 59) rfl rfl rfl rfl ?_
         refine wpR_v (OpV_pickF rfl rfl) rfl ?_
         refine wpR_v (OpV_move rfl) rfl ?_
         refine wpR_gskip (b := false) (t := 66) rfl rfl rfl rfl ?_
         refine wpR_gskip (b := false) (t := 66) rfl rfl rfl rfl ?_
         refine wpR_gskip (b := false) (t := 66) rfl rfl rfl rfl ?_
         refine wpR_gskip (b := false) (t := 66) rfl rfl rfl rfl ?_
         refine wpR_gskip (b := false) (t := 66) rfl rfl rfl rfl ?_
         refine wpR_v (OpV_pickF rfl rfl) rfl ?_
         refine wpR_v (OpV_move rfl) rfl ?_
         refine wpR_gskip (b := false) (t := 73) rfl rfl rfl rfl ?_
         refine wpR_gskip (b := false) (t := 73) rfl rfl rfl rfl ?_
         refine wpR_gskip (b := false) (t := 73) rfl rfl rfl rfl ?_
         refine wpR_gskip (b := false) (t := 73) rfl rfl rfl rfl ?_
         refine wpR_gskip (b := false) (t := 73) rfl rfl rfl rfl ?_
         refine wpR_v (OpV_pickF rfl rfl) rfl ?_
         refine wpR_v (OpV_move rfl) rfl ?_
         refine wpR_gskip (b := false) (t := 80) rfl rfl rfl rfl ?_
         refine wpR_gskip (b := false) (t := 80) rfl rfl rfl rfl ?_
         refine wpR_gskip (b := false) (t := 80) rfl rfl rfl rfl ?_
         refine wpR_gskip (b := false) (t := 80) rfl rfl rfl rfl ?_
         refine wpR_v (OpV_pickF rfl rfl) rfl ?_
         refine wpR_v (OpV_move rfl) rfl ?_
         refine wpR_gskip (b := false) (t := 86) rfl rfl rfl rfl ?_
         refine wpR_gskip (b := false) (t := 86) rfl rfl rfl rfl ?_
         refine wpR_gskip (b := false) (t := 86) rfl rfl rfl rfl ?_
         refine wpR_gskip (b := false) (t := 86) rfl rfl rfl rfl ?_
         refine wpR_v (OpV_pickF rfl rfl) rfl ?_
         refine wpR_v (OpV_assign rfl) rfl ?_
         refine wpR_nil ?_
         refine QE_then_n ?_
         refine wpC_ret ?_
         cases h
         exact QE_ret1 rfl rfl ⟨rfl, hS.pick [] (by decide) rfl⟩
       case false =>
        have h := if_f h hb_12
        try simp only [hb_12]
        refine wpR_gskip (b := false) (t := 52) rfl rfl rfl rfl ?_
        refine wpR_gskip (b := false) (t := 52) rfl rfl rfl rfl ?_
        refine wpR_gskip (b := false) (t := 52) rfl rfl rfl rfl ?_
        refine wpR_gskip (b := false) (t := 52) rfl rfl rfl rfl ?_
        refine wpR_gskip (b := false) (t := 52) rfl rfl rfl rfl ?_
        refine wpR_v (OpV_pickF rfl rfl) rfl ?_
        refine wpR_v (OpV_move rfl) rfl ?_
        refine wpR_gskip (b := false) (t := 59) rfl rfl rfl rfl ?_
        refine wpR_gskip (b := false) (t := 59) rfl rfl rfl rfl ?_
        refine wpR_gskip (b := false) (t := 59) rfl rfl rfl rfl ?_
        refine wpR_gskip (b := false) (t := 59) rfl rfl rfl rfl ?_
        refine wpR_gskip (b := false) (t := 59) rfl rfl rfl rfl ?_
        refine wpR_v (OpV_pickF rfl rfl) rfl ?_
        refine wpR_v (OpV_move rfl) rfl ?_
        refine wpR_gskip (b := false) (t := 66) rfl rfl rfl rfl ?_
        refine wpR_gskip (b := false) (t := 66) rfl rfl rfl rfl ?_
        refine wpR_gskip (b := false) (t := 66) rfl rfl rfl rfl ?_
        refine wpR_gskip (b := false) (t := 66) rfl rfl rfl rfl ?_
        refine wpR_gskip (b := false) (t := 66) rfl rfl rfl rfl ?_
        refine wpR_v (OpV_pickF rfl rfl) rfl ?_
        refine wpR_v (OpV_move rfl) rfl ?_
        refine wpR_gskip (b := false) (t := 73) rfl rfl rfl rfl ?_
        refine wpR_gskip (b := false) (t := 73) rfl rfl rfl rfl ?_
        refine wpR_gskip (b := false) (t := 73) rfl rfl rfl rfl ?_
        refine wpR_gskip (b := false) (t := 73) rfl rfl rfl rfl ?_
        refine wpR_gskip (b := false) (t := 73) rfl rfl rfl rfl ?_
        refine wpR_v (OpV_pickF rfl rfl) rfl ?_
        refine wpR_v (OpV_move rfl) rfl ?_
        refine wpR_gskip (b := false) (t := 80) rfl rfl rfl rfl ?_
        refine wpR_gskip (b := false) (t := 80) rfl rfl rfl rfl ?_
        refine wpR_gskip (b := false) (t := 80) rfl rfl rfl rfl ?_
        refine wpR_gskip (b := false) (t := 80) rfl rfl rfl rfl ?_
        refine wpR_v (OpV_pickF rfl rfl) rfl ?_
        refine wpR_v (OpV_move rfl) rfl ?_
        refine wpR_gskip (b := false) (t := 86) rfl rfl rfl rfl ?_
        refine wpR_gskip (b := false) (t := 86) rfl rfl rfl rfl ?_
        refine wpR_gskip (b := false) (t := 86) rfl rfl rfl rfl ?_
        refine wpR_gskip (b := false) (t := 86) rfl rfl rfl rfl ?_
        refine wpR_v (OpV_pickF rfl rfl) rfl ?_
        refine wpR_v (OpV_assign rfl) rfl ?_
        refine wpR_nil ?_
        refine QE_then_n ?_
        refine wpC_ret ?_
        cases h
        exact QE_ret1 rfl rfl ⟨rfl, hS.pick [] (by decide) rfl⟩
      case false =>
       have h := if_f h hb_11
       try simp only [hb_11]
       refine wpR_gskip (b := false) (t := 45) rfl rfl rfl rfl ?_
       refine wpR_gskip (b := false) (t := 45) rfl rfl rfl rfl ?_
       refine wpR_gskip (b := false) (t := 45) rfl rfl rfl rfl ?_
       refine wpR_gskip (b := false) (t := 45) rfl rfl rfl rfl ?_
       refine wpR_gskip (b := false) (t := 45) rfl rfl rfl rfl ?_
       refine wpR_v (OpV_pickF rfl rfl) rfl ?_
       refine wpR_v (OpV_move rfl) rfl ?_
       refine wpR_gskip (b := false) (t := 52) rfl rfl rfl rfl ?_
       refine wpR_gskip (b := false) (t := 52) rfl rfl rfl rfl ?_
       refine wpR_gskip (b := false) (t := 52) rfl rfl rfl rfl ?_
       refine wpR_gskip (b := false) (t := 52) rfl rfl rfl rfl ?_
       refine wpR_gskip (b := false) (t := 52) rfl rfl rfl rfl ?_
       refine wpR_v (OpV_pickF rfl rfl) rfl ?_
       refine wpR_v (OpV_move rfl) rfl ?_
       refine wpR_gskip (b := false) (t := 59) rfl rfl rfl rfl ?_
       refine wpR_gskip (b := false) (t := 59) rfl rfl rfl rfl ?_
       refine wpR_gskip (b := false) (t := 59) rfl rfl rfl rfl ?_
       refine wpR_gskip (b := false) (t := 59) rfl rfl rfl rfl ?_
       refine wpR_gskip (b := false) (t := 59) rfl rfl rfl rfl ?_
       refine wpR_v (OpV_pickF rfl rfl) rfl ?_
       refine wpR_v (OpV_move rfl) rfl ?_
       refine wpR_gskip (b := false) (t := 66) rfl rfl rfl rfl ?_
       refine wpR_gskip (b := false) (t := 66) rfl rfl rfl rfl ?_
       refine wpR_gskip (b := false) (t := 66) rfl rfl rfl rfl ?_
       refine wpR_gskip (b := false) (t := 66) rfl rfl rfl rfl ?_
       refine wpR_gskip (b := false) (t := 66) rfl rfl rfl rfl ?_
       refine wpR_v (OpV_pickF rfl rfl) rfl ?_
       refine wpR_v (OpV_move rfl) rfl ?_
       refine wpR_gskip (b := false) (t := 73) rfl rfl rfl rfl ?_
       refine wpR_gskip (b := false) (t := 73) rfl rfl rfl rfl ?_
       refine wpR_gskip (b := false) (t := 73) rfl rfl rfl rfl ?_
       refine wpR_gskip (b := false) (t := 73) rfl rfl rfl rfl ?_
       refine wpR_gskip (b := false) (t := 73) rfl rfl rfl rfl ?_
       refine wpR_v (OpV_pickF rfl rfl) rfl ?_
       refine wpR_v (OpV_move rfl) rfl ?_
       refine wpR_gskip (b := false) (t := 80) rfl rfl rfl rfl ?_
       refine wpR_gskip (b := false) (t := 80) rfl rfl rfl rfl ?_
       refine wpR_gskip (b := false) (t := 80) rfl rfl rfl rfl ?_
       refine wpR_gskip (b := false) (t := 80) rfl rfl rfl rfl ?_
       refine wpR_v (OpV_pickF rfl rfl) rfl ?_
       refine wpR_v (OpV_move rfl) rfl ?_
       refine wpR_gskip (b := false) (t := 86) rfl rfl rfl rfl ?_
       refine wpR_gskip (b := false) (t := 86) rfl rfl rfl rfl ?_
       refine wpR_gskip (b := false) (t := 86) rfl rfl rfl rfl ?_
       refine wpR_gskip (b := false) (t := 86) rfl rfl rfl rfl ?_
       refine wpR_v (OpV_pickF rfl rfl) rfl ?_
       refine wpR_v (OpV_assign rfl) rfl ?_
       refine wpR_nil ?_
       refine QE_then_n ?_
       refine wpC_ret ?_
       cases h
       exact QE_ret1 rfl rfl ⟨rfl, hS.pick [] (by decide) rfl⟩
     case false =>
      have h := if_f h hb_10
      try simp only [hb_10]
      refine wpR_gskip (b := false) (t := 38) rfl rfl rfl rfl ?_
      refine wpR_gskip (b := false) (t := 38) rfl rfl rfl rfl ?_
      refine wpR_gskip (b := false) (t := 38) rfl rfl rfl rfl ?_
      refine wpR_gskip (b := false) (t := 38) rfl rfl rfl rfl ?_
      refine wpR_gskip (b := false) (t := 38) rfl rfl rfl rfl ?_
      refine wpR_v (OpV_pickF rfl rfl) rfl ?_
      refine wpR_v (OpV_move rfl) rfl ?_
      refine wpR_gskip (b := false) (t := 45) rfl rfl rfl rfl ?_
      refine wpR_gskip (b := false) (t := 45) rfl rfl rfl rfl ?_
      refine wpR_gskip (b := false) (t := 45) rfl rfl rfl rfl ?_
      refine wpR_gskip (b := false) (t := 45) rfl rfl rfl rfl ?_
      refine wpR_gskip (b := false) (t := 45) rfl rfl rfl rfl ?_
      refine wpR_v (OpV_pickF rfl rfl) rfl ?_
      refine wpR_v (OpV_move rfl) rfl ?_
      refine wpR_gskip (b := false) (t := 52) rfl rfl rfl rfl ?_
      refine wpR_gskip (b := false) (t := 52) rfl rfl rfl rfl ?_
      refine wpR_gskip (b := false) (t := 52) rfl rfl rfl rfl ?_
      refine wpR_gskip (b := false) (t := 52) rfl rfl rfl rfl ?_
      refine wpR_gskip (b := false) (t := 52) rfl rfl rfl rfl ?_
      refine wpR_v (OpV_pickF rfl rfl) rfl ?_
      refine wpR_v (OpV_move rfl) rfl ?_
      refine wpR_gskip (b := false) (t := 59) rfl rfl rfl rfl ?_
      refine wpR_gskip (b := false) (t := 59) rfl rfl rfl rfl ?_
      refine wpR_gskip (b := false) (t := 59) rfl rfl rfl rfl ?_
      refine wpR_gskip (b := false) (t := 59) rfl rfl rfl rfl ?_
      refine wpR_gskip (b := false) (t := 59) rfl rfl rfl rfl ?_
      refine wpR_v (OpV_pickF rfl rfl) rfl ?_
      refine wpR_v (OpV_move rfl) rfl ?_
      refine wpR_gskip (b := false) (t := 66) rfl rfl rfl rfl ?_
      refine wpR_gskip (b := false) (t := 66) rfl rfl rfl rfl ?_
      refine wpR_gskip (b := false) (t := 66) rfl rfl rfl rfl ?_
      refine wpR_gskip (b := false) (t := 66) rfl rfl rfl rfl ?_
      refine wpR_gskip (b := false) (t := 66) rfl rfl rfl rfl ?_
      refine wpR_v (OpV_pickF rfl rfl) rfl ?_
      refine wpR_v (OpV_move rfl) rfl ?_
      refine wpR_gskip (b := false) (t := 73) rfl rfl rfl rfl ?_
      refine wpR_gskip (b := false) (t := 73) rfl rfl rfl rfl ?_
      refine wpR_gskip (b := false) (t := 73) rfl rfl rfl rfl ?_
      refine wpR_gskip (b := false) (t := 73) rfl rfl rfl rfl ?_
      refine wpR_gskip (b := false) (t := 73) rfl rfl rfl rfl ?_
      refine wpR_v (OpV_pickF rfl rfl) rfl ?_
      refine wpR_v (OpV_move rfl) rfl ?_
      refine wpR_gskip (b := false) (t := 80) rfl rfl rfl rfl ?_
      refine wpR_gskip (b := false) (t := 80) rfl rfl rfl rfl ?_
      refine wpR_gskip (b := false) (t := 80) rfl rfl rfl rfl ?_
      refine wpR_gskip (b := false) (t := 80) rfl rfl rfl rfl ?_
      refine wpR_v (OpV_pickF rfl rfl) rfl ?_
      refine wpR_v (OpV_move rfl) rfl ?_
      refine wpR_gskip (b := false) (t := 86) rfl rfl rfl rfl ?_
      refine wpR_gskip (b := false) (t := 86) rfl rfl rfl rfl ?_
      refine wpR_gskip (b := false) (t := 86) rfl rfl rfl rfl ?_
      refine wpR_gskip (b := false) (t := 86) rfl rfl rfl rfl ?_
      refine wpR_v (OpV_pickF rfl rfl) rfl ?_
      refine wpR_v (OpV_assign rfl) rfl ?_
      refine wpR_nil ?_
      refine QE_then_n ?_
      refine wpC_ret ?_
      cases h
      exact QE_ret1 rfl rfl ⟨rfl, hS.pick [] (by decide) rfl⟩
    case false =>
     have h := if_f h hb_8
     try simp only [hb_8]
     refine wpR_gskip (b := false) (t := 31) rfl rfl rfl rfl ?_
     refine wpR_gskip (b := false) (t := 31) rfl rfl rfl rfl ?_
     refine wpR_gskip (b := false) (t := 31) rfl rfl rfl rfl ?_
     refine wpR_gskip (b := false) (t := 31) rfl rfl rfl rfl ?_
     refine wpR_gskip (b := false) (t := 31) rfl rfl rfl rfl ?_
     refine wpR_v (OpV_pickF rfl rfl) rfl ?_
     refine wpR_v (OpV_move rfl) rfl ?_
     refine wpR_gskip (b := false) (t := 38) rfl rfl rfl rfl ?_
     refine wpR_gskip (b := false) (t := 38) rfl rfl rfl rfl ?_
     refine wpR_gskip (b := false) (t := 38) rfl rfl rfl rfl ?_
     refine wpR_gskip (b := false) (t := 38) rfl rfl rfl rfl ?_
     refine wpR_gskip (b := false) (t := 38) rfl rfl rfl rfl ?_
     refine wpR_v (OpV_pickF rfl rfl) rfl ?_
     refine wpR_v (OpV_move rfl) rfl ?_
     refine wpR_gskip (b := false) (t := 45) rfl rfl rfl rfl ?_
     refine wpR_gskip (b := false) (t := 45) rfl rfl rfl rfl ?_
     refine wpR_gskip (b := false) (t := 45) rfl rfl rfl rfl ?_
     refine wpR_gskip (b := false) (t := 45) rfl rfl rfl rfl ?_
     refine wpR_gskip (b := false) (t := 45) rfl rfl rfl rfl ?_
     refine wpR_v (OpV_pickF rfl rfl) rfl ?_
     refine wpR_v (OpV_move rfl) rfl ?_
     refine wpR_gskip (b := false) (t := 52) rfl rfl rfl rfl ?_
     refine wpR_gskip (b := false) (t := 52) rfl rfl rfl rfl ?_
     refine wpR_gskip (b := false) (t := 52) rfl rfl rfl rfl ?_
     refine wpR_gskip (b := false) (t := 52) rfl rfl rfl rfl ?_
     refine wpR_gskip (b := false) (t := 52) rfl rfl rfl rfl ?_
     refine wpR_v (OpV_pickF rfl rfl) rfl ?_
     refine wpR_v (OpV_move rfl) rfl ?_
     refine wpR_gskip (b := false) (t := 59) rfl rfl rfl rfl ?_
     refine wpR_gskip (b := false) (t := 59) rfl rfl rfl rfl ?_
     refine wpR_gskip (b := false) (t := 59) rfl rfl rfl rfl ?_
     refine wpR_gskip (b := false) (t := 59) rfl rfl rfl rfl ?_
     refine wpR_gskip (b := false) (t := 59) rfl rfl rfl rfl ?_
     refine wpR_v (OpV_pickF rfl rfl) rfl ?_
     refine wpR_v (OpV_move rfl) rfl ?_
     refine wpR_gskip (b := false) (t := 66) rfl rfl rfl rfl ?_
     refine wpR_gskip (b := false) (t := 66) rfl rfl rfl rfl ?_
     refine wpR_gskip (b := false) (t := 66) rfl rfl rfl rfl ?_
     refine wpR_gskip (b := false) (t := 66) rfl rfl rfl rfl ?_
     refine wpR_gskip (b := false) (t := 66) rfl rfl rfl rfl ?_
     refine wpR_v (OpV_pickF rfl rfl) rfl ?_
     refine wpR_v (OpV_move rfl) rfl ?_
     refine wpR_gskip (b := false) (t := 73) rfl rfl rfl rfl ?_
     refine wpR_gskip (b := false) (t := 73) rfl rfl rfl rfl ?_
     refine wpR_gskip (b := false) (t := 73) rfl rfl rfl rfl ?_
     refine wpR_gskip (b := false) (t := 73) rfl rfl rfl rfl ?_
     refine wpR_gskip (b := false) (t := 73) rfl rfl rfl rfl ?_
     refine wpR_v (OpV_pickF rfl rfl) rfl ?_
     refine wpR_v (OpV_move rfl) rfl ?_
     refine wpR_gskip (b := false) (t := 80) rfl rfl rfl rfl ?_
     refine wpR_gskip (b := false) (t := 80) rfl rfl rfl rfl ?_
     refine wpR_gskip (b := false) (t := 80) rfl rfl rfl rfl ?_
     refine wpR_gskip (b := false) (t := 80) rfl rfl rfl rfl ?_
     refine wpR_v (OpV_pickF rfl rfl) rfl ?_
     refine wpR_v (OpV_move rfl) rfl ?_
     refine wpR_gskip (b := false) (t := 86) rfl rfl rfl rfl ?_
     refine wpR_gskip (b := false) (t := 86) rfl rfl rfl rfl ?_
     refine wpR_gskip (b := false) (t := 86) rfl rfl rfl rfl ?_
     refine wpR_gskip (b := false) (t := 86) rfl rfl rfl rfl ?_
     refine wpR_v (OpV_pickF rfl rfl) rfl ?_
     refine wpR_v (OpV_assign rfl) rfl ?_
     refine wpR_nil ?_
     refine QE_then_n ?_
     refine wpC_ret ?_
     cases h
     exact QE_ret1 rfl rfl ⟨rfl, hS.pick [] (by decide) rfl⟩
   case false =>
    have h := if_f h hb_7
    try simp only [hb_7]
    refine wpR_gskip (b := false) (t := 24) rfl rfl rfl rfl ?_
    refine wpR_gskip (b := false) (t := 24) rfl rfl rfl rfl ?_
    refine wpR_gskip (b := false) (t := 24) rfl rfl rfl rfl ?_
    refine wpR_gskip (b := false) (t := 24) rfl rfl rfl rfl ?_
    refine wpR_gskip (b := false) (t := 24) rfl rfl rfl rfl ?_
    refine wpR_v (OpV_pickF rfl rfl) rfl ?_
    refine wpR_v (OpV_move rfl) rfl ?_
    refine wpR_gskip (b := false) (t := 31) rfl rfl rfl rfl ?_
    refine wpR_gskip (b := false) (t := 31) rfl rfl rfl rfl ?_
    refine wpR_gskip (b := false) (t := 31) rfl rfl rfl rfl ?_
    refine wpR_gskip (b := false) (t := 31) rfl rfl rfl rfl ?_
    refine wpR_gskip (b := false) (t := 31) rfl rfl rfl rfl ?_
    refine wpR_v (OpV_pickF rfl rfl) rfl ?_
    refine wpR_v (OpV_move rfl) rfl ?_
    refine wpR_gskip (b := false) (t := 38) rfl rfl rfl rfl ?_
    refine wpR_gskip (b := false) (t := 38) rfl rfl rfl rfl ?_
    refine wpR_gskip (b := false) (t := 38) rfl rfl rfl rfl ?_
    refine wpR_gskip (b := false) (t := 38) rfl rfl rfl rfl ?_
    refine wpR_gskip (b := false) (t := 38) rfl rfl rfl rfl ?_
    refine wpR_v (OpV_pickF rfl rfl) rfl ?_
    refine wpR_v (OpV_move rfl) rfl ?_
    refine wpR_gskip (b := false) (t := 45) rfl rfl rfl rfl ?_
    refine wpR_gskip (b := false) (t := 45) rfl rfl rfl rfl ?_
    refine wpR_gskip (b := false) (t := 45) rfl rfl rfl rfl ?_
    refine wpR_gskip (b := false) (t := 45) rfl rfl rfl rfl ?_
    refine wpR_gskip (b := false) (t := 45) rfl rfl rfl rfl ?_
    refine wpR_v (OpV_pickF rfl rfl) rfl ?_
    refine wpR_v (OpV_move rfl) rfl ?_
    refine wpR_gskip (b := false) (t := 52) rfl rfl rfl rfl ?_
    refine wpR_gskip (b := false) (t := 52) rfl rfl rfl rfl ?_
    refine wpR_gskip (b := false) (t := 52) rfl rfl rfl rfl ?_
    refine wpR_gskip (b := false) (t := 52) rfl rfl rfl rfl ?_
    refine wpR_gskip (b := false) (t := 52) rfl rfl rfl rfl ?_
    refine wpR_v (OpV_pickF rfl rfl) rfl ?_
    refine wpR_v (OpV_move rfl) rfl ?_
    refine wpR_gskip (b := false) (t := 59) rfl rfl rfl rfl ?_
    refine wpR_gskip (b := false) (t := 59) rfl rfl rfl rfl ?_
    refine wpR_gskip (b := false) (t := 59) rfl rfl rfl rfl ?_
    refine wpR_gskip (b := false) (t := 59) rfl rfl rfl rfl ?_
    refine wpR_gskip (b := false) (t := 59) rfl rfl rfl rfl ?_
    refine wpR_v (OpV_pickF rfl rfl) rfl ?_
    refine wpR_v (OpV_move rfl) rfl ?_
    refine wpR_gskip (b := false) (t := 66) rfl rfl rfl rfl ?_
    refine wpR_gskip (b := false) (t := 66) rfl rfl rfl rfl ?_
    refine wpR_gskip (b := false) (t := 66) rfl rfl rfl rfl ?_
    refine wpR_gskip (b := false) (t := 66) rfl rfl rfl rfl ?_
    refine wpR_gskip (b := false) (t := 66) rfl rfl rfl rfl ?_
    refine wpR_v (OpV_pickF rfl rfl) rfl ?_
    refine wpR_v (OpV_move rfl) rfl ?_
    refine wpR_gskip (b := false) (t := 73) rfl rfl rfl rfl ?_
    refine wpR_gskip (b := false) (t := 73) rfl rfl rfl rfl ?_
    refine wpR_gskip (b := false) (t := 73) rfl rfl rfl rfl ?_
    refine wpR_gskip (b := false) (t := 73) rfl rfl rfl rfl ?_
    refine wpR_gskip (b := false) (t := 73) rfl rfl rfl rfl ?_
    refine wpR_v (OpV_pickF rfl rfl) rfl ?_
    refine wpR_v (OpV_move rfl) rfl ?_
    refine wpR_gskip (b := false) (t := 80) rfl rfl rfl rfl ?_
    refine wpR_gskip (b := false) (t := 80) rfl rfl rfl rfl ?_
    refine wpR_gskip (b := false) (t := 80) rfl rfl rfl rfl ?_
    refine wpR_gskip (b := false) (t := 80) rfl rfl rfl rfl ?_
    refine wpR_v (OpV_pickF rfl rfl) rfl ?_
    refine wpR_v (OpV_move rfl) rfl ?_
    refine wpR_gskip (b := false) (t := 86) rfl rfl rfl rfl ?_
    refine wpR_gskip (b := false) (t := 86) rfl rfl rfl rfl ?_
    refine wpR_gskip (b := false) (t := 86) rfl rfl rfl rfl ?_
    refine wpR_gskip (b := false) (t := 86) rfl rfl rfl rfl ?_
    refine wpR_v (OpV_pickF rfl rfl) rfl ?_
    refine wpR_v (OpV_assign rfl) rfl ?_
    refine wpR_nil ?_
    refine QE_then_n ?_
    refine wpC_ret ?_
    cases h
    exact QE_ret1 rfl rfl ⟨rfl, hS.pick [] (by decide) rfl⟩
  case false =>
   have h := if_f h hb_6
   try simp only [hb_6]
   refine wpR_gskip (b := false) (t := 17) rfl rfl rfl rfl ?_
   refine wpR_gskip (b := false) (t := 17) rfl rfl rfl rfl ?_
   refine wpR_gskip (b := false) (t := 17) rfl rfl rfl rfl ?_
   refine wpR_gskip (b := false) (t := 17) rfl rfl rfl rfl ?_
   refine wpR_gskip (b := false) (t := 17) rfl rfl rfl rfl ?_
   refine wpR_v (OpV_pickF rfl rfl) rfl ?_
   refine wpR_v (OpV_move rfl) rfl ?_
   refine wpR_gskip (b := false) (t := 24) rfl rfl rfl rfl ?_
   refine wpR_gskip (b := false) (t := 24) rfl rfl rfl rfl ?_
   refine wpR_gskip (b := false) (t := 24) rfl rfl rfl rfl ?_
   refine wpR_gskip (b := false) (t := 24) rfl rfl rfl rfl ?_
   refine wpR_gskip (b := false) (t := 24) rfl rfl rfl rfl ?_
   refine wpR_v (OpV_pickF rfl rfl) rfl ?_
   refine wpR_v (OpV_move rfl) rfl ?_
   refine wpR_gskip (b := false) (t := 31) rfl rfl rfl rfl ?_
   refine wpR_gskip (b := false) (t := 31) rfl rfl rfl rfl ?_
   refine wpR_gskip (b := false) (t := 31) rfl rfl rfl rfl ?_
   refine wpR_gskip (b := false) (t := 31) rfl rfl rfl rfl ?_
   refine wpR_gskip (b := false) (t := 31) rfl rfl rfl rfl ?_
   refine wpR_v (OpV_pickF rfl rfl) rfl ?_
   refine wpR_v (OpV_move rfl) rfl ?_
   refine wpR_gskip (b := false) (t := 38) rfl rfl rfl rfl ?_
   refine wpR_gskip (b := false) (t := 38) rfl rfl rfl rfl ?_
   refine wpR_gskip (b := false) (t := 38) rfl rfl rfl rfl ?_
   refine wpR_gskip (b := false) (t := 38) rfl rfl rfl rfl ?_
   refine wpR_gskip (b := false) (t := 38) rfl rfl rfl rfl ?_
   refine wpR_v (OpV_pickF rfl rfl) rfl ?_
   refine wpR_v (OpV_move rfl) rfl ?_
   refine wpR_gskip (b := false) (t := 45) rfl rfl rfl rfl ?_
   refine wpR_gskip (b := false) (t := 45) rfl rfl rfl rfl ?_
   refine wpR_gskip (b := false) (t := 45) rfl rfl rfl rfl ?_
   refine wpR_gskip (b := false) (t := 45) rfl rfl rfl rfl ?_
   refine wpR_gskip (b := false) (t := 45) rfl rfl rfl rfl ?_
   refine wpR_v (OpV_pickF rfl rfl) rfl ?_
   refine wpR_v (OpV_move rfl) rfl ?_
   refine wpR_gskip (b := false) (t := 52) rfl rfl rfl rfl ?_
   refine wpR_gskip (b := false) (t := 52) rfl rfl rfl rfl ?_
   refine wpR_gskip (b := false) (t := 52) rfl rfl rfl rfl ?_
   refine wpR_gskip (b := false) (t := 52) rfl rfl rfl rfl ?_
   refine wpR_gskip (b := false) (t := 52) rfl rfl rfl rfl ?_
   refine wpR_v (OpV_pickF rfl rfl) rfl ?_
   refine wpR_v (OpV_move rfl) rfl ?_
   refine wpR_gskip (b := false) (t := 59) rfl rfl rfl rfl ?_
   refine wpR_gskip (b := false) (t := 59) rfl rfl rfl rfl ?_
   refine wpR_gskip (b := false) (t := 59) rfl rfl rfl rfl ?_
   refine wpR_gskip (b := false) (t := 59) rfl rfl rfl rfl ?_
   refine wpR_gskip (b := false) (t := 59) rfl rfl rfl rfl ?_
   refine wpR_v (OpV_pickF rfl rfl) rfl ?_
   refine wpR_v (OpV_move rfl) rfl ?_
   refine wpR_gskip (b := false) (t := 66) rfl rfl rfl rfl ?_
   refine wpR_gskip (b := false) (t := 66) rfl rfl rfl rfl ?_
   refine wpR_gskip (b := false) (t := 66) rfl rfl rfl rfl ?_
   refine wpR_gskip (b := false) (t := 66) rfl rfl rfl rfl ?_
   refine wpR_gskip (b := false) (t := 66) rfl rfl rfl rfl ?_
   refine wpR_v (OpV_pickF rfl rfl) rfl ?_
   refine wpR_v (OpV_move rfl) rfl ?_
   refine wpR_gskip (b := false) (t := 73) rfl rfl rfl rfl ?_
   refine wpR_gskip (b := false) (t := 73) rfl rfl rfl rfl ?_
   refine wpR_gskip (b := false) (t := 73) rfl rfl rfl rfl ?_
   refine wpR_gskip (b := false) (t := 73) rfl rfl rfl rfl ?_
   refine wpR_gskip (b := false) (t := 73) rfl rfl rfl rfl ?_
   refine wpR_v (OpV_pickF rfl rfl) rfl ?_
   refine wpR_v (OpV_move rfl) rfl ?_
   refine wpR_gskip (b := false) (t := 80) rfl rfl rfl rfl ?_
   refine wpR_gskip (b := false) (t := 80) rfl rfl rfl rfl ?_
   refine wpR_gskip (b := false) (t := 80) rfl rfl rfl rfl ?_
   refine wpR_gskip (b := false) (t := 80) rfl rfl rfl rfl ?_
   refine wpR_v (OpV_pickF rfl rfl) rfl ?_
   refine wpR_v (OpV_move rfl) rfl ?_
   refine wpR_gskip (b := false) (t := 86) rfl rfl rfl rfl ?_
   refine wpR_gskip (b := false) (t := 86) rfl rfl rfl rfl ?_
   refine wpR_gskip (b := false) (t := 86) rfl rfl rfl rfl ?_
   refine wpR_gskip (b := false) (t := 86) rfl rfl rfl rfl ?_
   refine wpR_v (OpV_pickF rfl rfl) rfl ?_
   refine wpR_v (OpV_assign rfl) rfl ?_
   refine wpR_nil ?_
   refine QE_then_n ?_
   refine wpC_ret ?_
   cases h
   exact QE_ret1 rfl rfl ⟨rfl, hS.pick [] (by decide) rfl⟩
 case false =>
  have h := if_f h hb_5
  try simp only [hb_5]
  refine wpR_gskip (b := false) (t := 10) rfl rfl rfl rfl ?_
  refine wpR_gskip (b := false) (t := 10) rfl rfl rfl rfl ?_
  refine wpR_gskip (b := false) (t := 10) rfl rfl rfl rfl ?_
  refine wpR_gskip (b := false) (t := 10) rfl rfl rfl rfl ?_
  refine wpR_gskip (b := false) (t := 10) rfl rfl rfl rfl ?_
  refine wpR_v (OpV_pickF rfl rfl) rfl ?_
  refine wpR_v (OpV_move rfl) rfl ?_
  refine wpR_gskip (b := false) (t := 17) rfl rfl rfl rfl ?_
  refine wpR_gskip (b := false) (t := 17) rfl rfl rfl rfl ?_
  refine wpR_gskip (b := false) (t := 17) rfl rfl rfl rfl ?_
  refine wpR_gskip (b := false) (t := 17) rfl rfl rfl rfl ?_
  refine wpR_gskip (b := false) (t := 17) rfl rfl rfl rfl ?_
  refine wpR_v (OpV_pickF rfl rfl) rfl ?_
  refine wpR_v (OpV_move rfl) rfl ?_
  refine wpR_gskip (b := false) (t := 24) rfl rfl rfl rfl ?_
  refine wpR_gskip (b := false) (t := 24) rfl rfl rfl rfl ?_
  refine wpR_gskip (b := false) (t := 24) rfl rfl rfl rfl ?_
  refine wpR_gskip (b := false) (t := 24) rfl rfl rfl rfl ?_
  refine wpR_gskip (b := false) (t := 24) rfl rfl rfl rfl ?_
  refine wpR_v (OpV_pickF rfl rfl) rfl ?_
  refine wpR_v (OpV_move rfl) rfl ?_
  refine wpR_gskip (b := false) (t := 31) rfl rfl rfl rfl ?_
  refine wpR_gskip (b := false) (t := 31) rfl rfl rfl rfl ?_
  refine wpR_gskip (b := false) (t := 31) rfl rfl rfl rfl ?_
  refine wpR_gskip (b := false) (t := 31) rfl rfl rfl rfl ?_
  refine wpR_gskip (b := false) (t := 31) rfl rfl rfl rfl ?_
  refine wpR_v (OpV_pickF rfl rfl) rfl ?_
  refine wpR_v (OpV_move rfl) rfl ?_
  refine wpR_gskip (b := false) (t := 38) rfl rfl rfl rfl ?_
  refine wpR_gskip (b := false) (t := 38) rfl rfl rfl rfl ?_
  refine wpR_gskip (b := false) (t := 38) rfl rfl rfl rfl ?_
  refine wpR_gskip (b := false) (t := 38) rfl rfl rfl rfl ?_
  refine wpR_gskip (b := false) (t := 38) rfl rfl rfl rfl ?_
  refine wpR_v (OpV_pickF rfl rfl) rfl ?_
  refine wpR_v (OpV_move rfl) rfl ?_
  refine wpR_gskip (b := false) (t := 45) rfl rfl rfl rfl ?_
  refine wpR_gskip (b := false) (t := 45) rfl rfl rfl rfl ?_
  refine wpR_gskip (b := false) (t := 45) rfl rfl rfl rfl ?_
  refine wpR_gskip (b := false) (t := 45) rfl rfl rfl rfl ?_
  refine wpR_gskip (b := false) (t := 45) rfl rfl rfl rfl ?_
  refine wpR_v (OpV_pickF rfl rfl) rfl ?_
  refine wpR_v (OpV_move rfl) rfl ?_
  refine wpR_gskip (b := false) (t := 52) rfl rfl rfl rfl ?_
  refine wpR_gskip (b := false) (t := 52) rfl rfl rfl rfl ?_
  refine wpR_gskip (b := false) (t := 52) rfl rfl rfl rfl ?_
  refine wpR_gskip (b := false) (t := 52) rfl rfl rfl rfl ?_
  refine wpR_gskip (b := false) (t := 52) rfl rfl rfl rfl ?_
  refine wpR_v (OpV_pickF rfl rfl) rfl ?_
  refine wpR_v (OpV_move rfl) rfl ?_
  refine wpR_gskip (b := false) (t := 59) rfl rfl rfl rfl ?_
  refine wpR_gskip (b := false) (t := 59) rfl rfl rfl rfl ?_
  refine wpR_gskip (b := false) (t := 59) rfl rfl rfl rfl ?_
  refine wpR_gskip (b := false) (t := 59) rfl rfl rfl rfl ?_
  refine wpR_gskip (b := false) (t := 59) rfl rfl rfl rfl ?_
  refine wpR_v (OpV_pickF rfl rfl) rfl ?_
  refine wpR_v (OpV_move rfl) rfl ?_
  refine wpR_gskip (b := false) (t := 66) rfl rfl rfl rfl ?_
  refine wpR_gskip (b := false) (t := 66) rfl rfl rfl rfl ?_
  refine wpR_gskip (b := false) (t := 66) rfl rfl rfl rfl ?_
  refine wpR_gskip (b := false) (t := 66) rfl rfl rfl rfl ?_
  refine wpR_gskip (b := false) (t := 66) rfl rfl rfl rfl ?_
  refine wpR_v (OpV_pickF rfl rfl) rfl ?_
  refine wpR_v (OpV_move rfl) rfl ?_
  refine wpR_gskip (b := false) (t := 73) rfl rfl rfl rfl ?_
  refine wpR_gskip (b := false) (t := 73) rfl rfl rfl rfl ?_
  refine wpR_gskip (b := false) (t := 73) rfl rfl rfl rfl ?_
  refine wpR_gskip (b := false) (t := 73) rfl rfl rfl rfl ?_
  refine wpR_gskip (b := false) (t := 73) rfl rfl rfl rfl ?_
  refine wpR_v (OpV_pickF rfl rfl) rfl ?_
  refine wpR_v (OpV_move rfl) rfl ?_
  refine wpR_gskip (b := false) (t := 80) rfl rfl rfl rfl ?_
  refine wpR_gskip (b := false) (t := 80) rfl rfl rfl rfl ?_
  refine wpR_gskip (b := false) (t := 80) rfl rfl rfl rfl ?_
  refine wpR_gskip (b := false) (t := 80) rfl rfl rfl rfl ?_
  refine wpR_v (OpV_pickF rfl rfl) rfl ?_
  refine wpR_v (OpV_move rfl) rfl ?_
  refine wpR_gskip (b := false) (t := 86) rfl rfl rfl rfl ?_
  refine wpR_gskip (b := false) (t := 86) rfl rfl rfl rfl ?_
  refine wpR_gskip (b := false) (t := 86) rfl rfl rfl rfl ?_
  refine wpR_gskip (b := false) (t := 86) rfl rfl rfl rfl ?_
  refine wpR_v (OpV_pickF rfl rfl) rfl ?_
  refine wpR_v (OpV_assign rfl) rfl ?_
  refine wpR_nil ?_
  refine QE_then_n ?_
  refine wpC_ret ?_
  cases h
  exact QE_ret1 rfl rfl ⟨rfl, hS.pick [] (by decide) rfl⟩
theorem c_law31_same (w0 : World) (a0 : List UInt8) (a1 : List UInt8) (va0 : Value) (va1 : Value) (ha0 : RP [] w0 e8 va0 a0) (ha1 : RP [] w0 e8 va1 a1) (r : Bool)
  (h : F.law31_same a0 a1 = some r) : Calls Tryd.prog 22 #[va0, va1] w0 (Ret fun v w => v = vB r ∧ St [] w0 w []) := by
 refine calls_at 26 Tryd.func22 rfl rfl rfl ?_
 have hS := St.start w0
 refine wpC_le [(0, va0), (1, va1)] ⟨rfl, rfl, trivial⟩ ?_
 unfold F.law31_same at h
 refine wpC_seq ?_
 refine wpC_region ?_
 refine wpR_v (OpV_assign rfl) rfl ?_
 refine wpR_nil ?_
 refine QE_then_n ?_
 refine wpC_seq ?_
 refine wpC_seq ?_
 refine wpC_region ?_
 refine wpR_v (OpV_move rfl) rfl ?_
 refine wpR_v (OpV_len Tryd.underlying22 rfl (ha0.now hS.fr)) rfl ?_
 refine wpR_v (OpV_move rfl) rfl ?_
 refine wpR_v (OpV_len Tryd.underlying22 rfl (ha1.now hS.fr)) rfl ?_
 refine wpR_v (OpV_bin rfl rfl (b_ineq _ (a0.length : Int) (a1.length : Int))) rfl ?_
 refine wpR_nil ?_
 refine QE_then_n ?_
 refine wpC_cond rfl (fun hb_10 => ?_) (fun hb_10 => ?_)
 ·have h := if_t h hb_10
  refine wpC_seq ?_
  refine wpC_region ?_
  refine wpR_v (OpV_assign rfl) rfl ?_
  refine wpR_nil ?_
  refine QE_then_n ?_
  refine wpC_ret ?_
  refine QE_then_r ?_
  cases h
  exact QE_ret1 rfl rfl ⟨rfl, hS⟩
 ·have h := if_f h hb_10
  refine wpC_skip ?_
  refine QE_then_n ?_
  refine wpC_seq ?_
  refine wpC_seq ?_
  refine wpC_region ?_
  refine wpR_v (OpV_assign rfl) rfl ?_
  refine wpR_nil ?_
  refine QE_then_n ?_
  refine wpC_block ?_
  refine wpC_le [(0, va0), (1, va1), (5, vI 0)] ⟨rfl, rfl, rfl, trivial⟩ ?_
  refine loop_ind (F.law31_same_L1 a0 a1) (fun (s : Int) L w => L = [(0, va0), (1, va1), (5, vI s)] ∧ St [] w0 w []) ?_ 0 ⟨rfl, hS⟩ h
  rintro k_9 x_1 L w q_4 hI ih_3 h hk_2
  try dsimp only at hI
  obtain ⟨rfl, hS⟩ := hI
  unfold F.law31_same_L1 at h
  refine wpC_seq ?_
  refine wpC_seq ?_
  refine wpC_region ?_
  refine wpR_v (OpV_move rfl) rfl ?_
  refine wpR_v (OpV_move rfl) rfl ?_
  refine wpR_v (OpV_len Tryd.underlying22 rfl (ha0.now hS.fr)) rfl ?_
  refine wpR_v (OpV_bin rfl rfl (b_ilss _ x_1 (a0.length : Int))) rfl ?_
  refine wpR_nil ?_
  refine QE_then_n ?_
  refine wpC_cond rfl (fun hb_8 => ?_) (fun hb_8 => ?_)
  ·have h := if_t h hb_8
   refine wpC_skip ?_
   refine QE_then_n ?_
   refine wpC_seq ?_
   refine wpC_block ?_
   refine wpC_seq ?_
   refine wpC_regionT (fun w' => St [] w0 w' []) (fun _ => true) hmix (fun _ _ _ hf => hf.2) (fun _ _ hf => hf) (by kernel_rfl) ?_
   have hS := hS.drew
   show lxE _ _ _ _ _ _ _ [0, 1, 2, 3, 4, 5, 6, 7, 8] _ _
   refine lxE_v hS rfl rfl (fun w hF => OpV_move rfl) rfl ?_
   refine lxE_v hS rfl rfl (fun w hF => OpV_move rfl) rfl ?_
   obtain ⟨x_5, hx_5, h⟩ := obind_some h
   refine lxE_v hS rfl rfl (fun w hF => G_ix Tryd.underlying22 ti5 rfl rfl (ha0.now hF.fr) hx_5) rfl ?_
   refine lxE_v hS rfl rfl (fun w hF => G_load Tryd.underlying5 rfl rfl (ha0.now hF.fr) hx_5 rfl) rfl ?_
   refine lxE_v hS rfl rfl (fun w hF => OpV_move rfl) rfl ?_
   refine lxE_v hS rfl rfl (fun w hF => OpV_move rfl) rfl ?_
   obtain ⟨x_6, hx_6, h⟩ := obind_some h
   refine lxE_v hS rfl rfl (fun w hF => G_ix Tryd.underlying22 ti5 rfl rfl (ha1.now hF.fr) hx_6) rfl ?_
   refine lxE_v hS rfl rfl (fun w hF => G_load Tryd.underlying5 rfl rfl (ha1.now hF.fr) hx_6 rfl) rfl ?_
   refine lxE_v hS rfl rfl (fun w hF => OpV_bin rfl rfl (b_neq8 _ x_5 x_6)) rfl ?_
   refine lxE_nil hS ?_
   refine QE_then_n ?_
   refine wpC_cond rfl (fun hb_7 => ?_) (fun hb_7 => ?_)
   ·have h := if_t h hb_7
    refine wpC_seq ?_
    refine wpC_region ?_
    refine wpR_v (OpV_assign rfl) rfl ?_
    refine wpR_nil ?_
    refine QE_then_n ?_
    refine wpC_ret ?_
    refine QE_blk_r ?_
    refine QE_then_r ?_
    refine QE_then_r ?_
    have h := oinr_some h hk_2
    refine QE_blk_r ?_
    refine QE_then_r ?_
    cases h
    exact QE_ret1 rfl rfl ⟨rfl, hS⟩
   ·have h := if_f h hb_7
    refine wpC_skip ?_
    refine QE_blk_n ?_
    refine QE_then_n ?_
    refine wpC_region ?_
    refine wpR_v (OpV_move rfl) rfl ?_
    refine wpR_v (OpV_bin rfl rfl (b_iadd _ x_1 1)) rfl ?_
    refine wpR_v (OpV_assign rfl) rfl ?_
    refine wpR_nil ?_
    exact QE_rnd (wpN_le _ (by exact ⟨rfl, rfl, rfl, trivial⟩) (ih_3 (wI (x_1 + 1)) _ _ ⟨rfl, hS⟩ (oinl_some h hk_2)))
  ·have h := if_f h hb_8
   refine wpC_exit ?_
   refine QE_then_x ?_
   refine QE_then_x ?_
   have h := oinr_some h hk_2
   refine QE_blk_x ?_
   refine QE_then_n ?_
   refine wpC_seq ?_
   refine wpC_region ?_
   refine wpR_v (OpV_assign rfl) rfl ?_
   refine wpR_nil ?_
   refine QE_then_n ?_
   refine wpC_ret ?_
   cases h
   exact QE_ret1 rfl rfl ⟨rfl, hS⟩
theorem c_law31_spared (w0 : World) (a0 : List UInt8) (k0 : Nat) (a1 : List UInt8) (va0 : Value) (va1 : Value) (ha0 : RP [] w0 e8 va0 a0) (hk0 : k0 ≤ a0.length) (ha1 : RP [] w0 e8 va1 a1) (r : Bool)
  (h : F.law31_spared a0 k0 a1 = some r) : Calls Tryd.prog 12 #[slV va0 e8.sz 0 k0, va1] w0 (Ret fun v w => v = vB r ∧ St [] w0 w []) := by
 refine calls_at 28 Tryd.func12 rfl rfl rfl ?_
 have hS := St.start w0
 refine wpC_le [(0, slV va0 e8.sz 0 k0), (1, va1)] ⟨rfl, rfl, trivial⟩ ?_
 unfold F.law31_spared at h
 refine wpC_seq ?_
 refine wpC_region ?_
 refine wpR_v (OpV_assign rfl) rfl ?_
 refine wpR_nil ?_
 refine QE_then_n ?_
 refine wpC_seq ?_
 refine wpC_region ?_
 refine wpR_v (OpV_move rfl) rfl ?_
 refine wpR_v (OpV_move rfl) rfl ?_
 refine wpR_v (OpV_len Tryd.underlying22 rfl (ha1.now hS.fr)) rfl ?_
 refine wpR_v (OpV_bin rfl rfl (b_iadd _ (a1.length : Int) 9)) rfl ?_
 obtain ⟨hg_1, h⟩ := grd_some h
 refine wpR_v (G_slh_room Tryd.underlying22 ti5 rfl rfl (ha0.now hS.fr) (tkO_of hg_1)) rfl ?_
 refine wpR_v (OpV_assign rfl) rfl ?_
 refine wpR_nil ?_
 refine QE_then_n ?_
 refine wpC_seq ?_
 refine wpC_seq ?_
 refine wpC_region ?_
 refine wpR_v (OpV_move rfl) rfl ?_
 refine wpR_v (OpV_len Tryd.underlying22 rfl (ha1.now hS.fr)) rfl ?_
 refine wpR_v (OpV_assign rfl) rfl ?_
 refine wpR_nil ?_
 refine QE_then_n ?_
 refine wpC_block ?_
 refine wpC_le [(0, slV va0 e8.sz 0 k0), (1, va1), (5, slV va0 e8.sz 0 ((wI ((a1.length : Int) + 9) : Int).toNat)), (6, vI (a1.length : Int))] ⟨rfl, rfl, rfl, rfl, trivial⟩ ?_
 refine loop_ind (F.law31_spared_L1 a0 k0 a1) (fun (s : Int) L w => L = [(0, slV va0 e8.sz 0 k0), (1, va1), (5, slV va0 e8.sz 0 ((wI ((a1.length : Int) + 9) : Int).toNat)), (6, vI s)] ∧ St [] w0 w []) ?_ (a1.length : Int) ⟨rfl, hS⟩ h
 rintro k_10 x_2 L w q_5 hI ih_4 h hk_3
 try dsimp only at hI
 obtain ⟨rfl, hS⟩ := hI
 unfold F.law31_spared_L1 at h
 refine wpC_seq ?_
 refine wpC_seq ?_
 refine wpC_region ?_
 refine wpR_v (OpV_move rfl) rfl ?_
 refine wpR_v (OpV_move rfl) rfl ?_
 refine wpR_v (OpV_len Tryd.underlying22 rfl ((ha0.now hS.fr).tk hg_1.2)) rfl ?_
 refine wpR_v (OpV_bin rfl rfl (b_ilss _ x_2 ((a0.take ((wI ((a1.length : Int) + 9) : Int).toNat)).length : Int))) rfl ?_
 refine wpR_nil ?_
 refine QE_then_n ?_
 refine wpC_cond rfl (fun hb_9 => ?_) (fun hb_9 => ?_)
 ·have h := if_t h hb_9
  refine wpC_skip ?_
  refine QE_then_n ?_
  refine wpC_seq ?_
  refine wpC_block ?_
  refine wpC_seq ?_
  refine wpC_region ?_
  refine wpR_v (OpV_move rfl) rfl ?_
  refine wpR_v (OpV_move rfl) rfl ?_
  obtain ⟨x_6, hx_6, h⟩ := obind_some h
  refine wpR_v (G_ix_room Tryd.underlying22 ti5 rfl rfl (ha0.now hS.fr) hg_1.2 hx_6) rfl ?_
  refine wpR_v (G_load Tryd.underlying5 rfl rfl (ha0.now hS.fr) (getO_take hx_6) rfl) rfl ?_
  refine wpR_v (OpV_bin rfl rfl (b_neq8 _ x_6 165)) rfl ?_
  refine wpR_nil ?_
  refine QE_then_n ?_
  refine wpC_cond rfl (fun hb_7 => ?_) (fun hb_7 => ?_)
  ·have h := if_t h hb_7
   refine wpC_seq ?_
   refine wpC_region ?_
   refine wpR_v (OpV_assign rfl) rfl ?_
   refine wpR_nil ?_
   refine QE_then_n ?_
   refine wpC_ret ?_
   refine QE_blk_r ?_
   refine QE_then_r ?_
   refine QE_then_r ?_
   have h := oinr_some h hk_3
   refine QE_blk_r ?_
   refine QE_then_r ?_
   cases h
   exact QE_ret1 rfl rfl ⟨rfl, hS⟩
  ·have h := if_f h hb_7
   refine wpC_skip ?_
   refine QE_blk_n ?_
   refine QE_then_n ?_
   refine wpC_region ?_
   refine wpR_v (OpV_move rfl) rfl ?_
   refine wpR_v (OpV_bin rfl rfl (b_iadd _ x_2 1)) rfl ?_
   refine wpR_v (OpV_assign rfl) rfl ?_
   refine wpR_nil ?_
   exact QE_rnd (wpN_le _ (by exact ⟨rfl, rfl, rfl, rfl, trivial⟩) (ih_4 (wI (x_2 + 1)) _ _ ⟨rfl, hS⟩ (oinl_some h hk_3)))
 ·have h := if_f h hb_9
  refine wpC_exit ?_
  refine QE_then_x ?_
  refine QE_then_x ?_
  have h := oinr_some h hk_3
  refine QE_blk_x ?_
  refine QE_then_n ?_
  refine wpC_seq ?_
  refine wpC_region ?_
  refine wpR_v (OpV_move rfl) rfl ?_
  refine wpR_v (OpV_move rfl) rfl ?_
  obtain ⟨x_8, hx_8, h⟩ := obind_some h
  refine wpR_call (by kernel_rfl) rfl (c_law31_same _ (a0.take k0) a1 (slV va0 e8.sz 0 k0) va1  ((ha0.now hS.fr).tk hk0).rp (ha1.now hS.fr).rp _ hx_8) rfl ?_
  rintro _ w ⟨rfl, hS1⟩
  have hS := hS.call hS1
  simp only [List.cons_append, List.nil_append] at hS
  refine wpR_v (OpV_assign rfl) rfl ?_
  refine wpR_nil ?_
  refine QE_then_n ?_
  refine wpC_ret ?_
  cases h
  exact QE_ret1 rfl rfl ⟨rfl, hS⟩
theorem c_law31_CoseClaims (w0 : World) (a0 : List UInt8) (va0 : Value) (hT : TB [] w0) (ha0 : RP [] w0 e8 va0 a0) (r : Bool)
  (h : F.law31_CoseClaims a0 = some r) : Calls Tryd.prog 3 #[va0] w0 (Ret fun v w => v = vB r ∧ St [] w0 w []) := by
 refine calls_at 68 Tryd.func3 rfl rfl rfl ?_
 have hS := St.start w0
 refine wpC_le [(0, va0)] ⟨rfl, trivial⟩ ?_
 unfold F.law31_CoseClaims at h
 refine wpC_seq ?_
 refine wpC_region ?_
 refine wpR_v (OpV_assign rfl) rfl ?_
 refine wpR_nil ?_
 refine QE_then_n ?_
 refine wpC_seq ?_
 refine wpC_region ?_
 refine wpR_v (OpV_move rfl) rfl ?_
 obtain ⟨x_1, hx_1, h⟩ := obind_some h
 refine wpR_call (by kernel_rfl) rfl (c_law31_roomy _ a0 va0  (ha0.now hS.fr).rp _ hx_1) rfl ?_
 rintro _ w ⟨v_2, rfl, hk_4, hS1⟩
 have hS := hS.call hS1
 simp only [List.cons_append, List.nil_append] at hS
 refine wpR_v (OpV_assign rfl) rfl ?_
 refine wpR_nil ?_
 refine QE_then_n ?_
 refine wpC_seq ?_
 refine wpC_region ?_
 refine wpR_v (OpV_move rfl) rfl ?_
 obtain ⟨x_5, hx_5, h⟩ := obind_some h
 refine wpR_call (by kernel_rfl) rfl (c_cose_Claims _ (x_1.1.take x_1.2) (slV v_2 e8.sz 0 x_1.2)  (hT.now hS.fr) ((hS.ro 0 rfl).tk hk_4).rp _ hx_5) rfl ?_
 rintro _ w ⟨v_6, v_8, rfl, hS1⟩
 have hS := hS.call hS1
 simp only [List.cons_append, List.nil_append] at hS
 refine wpR_v (OpV_move rfl) rfl ?_
 refine wpR_v (OpV_extract rfl rfl) rfl ?_
 refine wpR_v (OpV_extract rfl rfl) rfl ?_
 refine wpR_x (OpX_alloc (cs := [.slice none 0 0, vS [], vB false, vS [], vB false, .slice none 0 0, vB false, vS [], vB false, vB false, vI 0, vB false, vI 0, vB false, vI 0]) tz29 rfl hS) rfl ?_
 rintro _ w ⟨b_10, rfl, hS⟩
 refine wpR_y (OpY_stB (i := 0) (us := [v_6, vS x_5.2.1, vB x_5.2.2.1, vS x_5.2.2.2.1, vB x_5.2.2.2.2.1, v_8, vB x_5.2.2.2.2.2.2.1, vS x_5.2.2.2.2.2.2.2.1, vB x_5.2.2.2.2.2.2.2.2.1, vB x_5.2.2.2.2.2.2.2.2.2.1, vI x_5.2.2.2.2.2.2.2.2.2.2.1, vB x_5.2.2.2.2.2.2.2.2.2.2.2.1, vI x_5.2.2.2.2.2.2.2.2.2.2.2.2.1, vB x_5.2.2.2.2.2.2.2.2.2.2.2.2.2.1, vI x_5.2.2.2.2.2.2.2.2.2.2.2.2.2.2.1]) rfl sz29 rfl rfl rfl ⟨(hS.ro 1 rfl).one, rfl, rfl, rfl, rfl, (hS.ro 2 rfl).one, rfl, rfl, rfl, rfl, rfl, rfl, rfl, rfl, rfl, trivial⟩ rfl hS) ?_
 intro w hS
 replace hS : St _ w0 w [OE.bx b_10 [v_6, vS x_5.2.1, vB x_5.2.2.1, vS x_5.2.2.2.1, vB x_5.2.2.2.2.1, v_8, vB x_5.2.2.2.2.2.2.1, vS x_5.2.2.2.2.2.2.2.1, vB x_5.2.2.2.2.2.2.2.2.1, vB x_5.2.2.2.2.2.2.2.2.2.1, vI x_5.2.2.2.2.2.2.2.2.2.2.1, vB x_5.2.2.2.2.2.2.2.2.2.2.2.1, vI x_5.2.2.2.2.2.2.2.2.2.2.2.2.1, vB x_5.2.2.2.2.2.2.2.2.2.2.2.2.2.1, vI x_5.2.2.2.2.2.2.2.2.2.2.2.2.2.2.1], own (eP eI (eP eS (eP eS (eP eB (eP eI eI))))) v_6 x_5.1, own eS v_8 x_5.2.2.2.2.2.1, own e8 v_2 x_1.1] := hS
 obtain ⟨x_12, hx_12, h⟩ := olet_some h
 refine wpR_v (OpV_assign (v := vI x_12) (by rw [← hx_12]; rfl)) rfl ?_
 refine wpR_nil ?_
 refine QE_then_n ?_
 refine wpC_seq ?_
 refine wpC_region ?_
 refine wpR_v (OpV_move rfl) rfl ?_
 obtain ⟨x_13, hx_13, h⟩ := obind_some h
 refine wpR_call (by kernel_rfl) rfl (c_ref31_Claims _ a0 va0  (ha0.now hS.fr).rp _ hx_13) rfl ?_
 rintro _ w ⟨v_14, v_16, rfl, hS1⟩
 have hS := hS.call hS1
 simp only [List.cons_append, List.nil_append] at hS
 refine wpR_v (OpV_move rfl) rfl ?_
 refine wpR_v (OpV_extract rfl rfl) rfl ?_
 refine wpR_v (OpV_extract rfl rfl) rfl ?_
 refine wpR_x (OpX_alloc (cs := [.slice none 0 0, vS [], vB false, vS [], vB false, .slice none 0 0, vB false, vS [], vB false, vB false, vI 0, vB false, vI 0, vB false, vI 0]) tz29 rfl hS) rfl ?_
 rintro _ w ⟨b_18, rfl, hS⟩
 refine wpR_y (OpY_stB (i := 0) (us := [v_14, vS x_13.2.1, vB x_13.2.2.1, vS x_13.2.2.2.1, vB x_13.2.2.2.2.1, v_16, vB x_13.2.2.2.2.2.2.1, vS x_13.2.2.2.2.2.2.2.1, vB x_13.2.2.2.2.2.2.2.2.1, vB x_13.2.2.2.2.2.2.2.2.2.1, vI x_13.2.2.2.2.2.2.2.2.2.2.1, vB x_13.2.2.2.2.2.2.2.2.2.2.2.1, vI x_13.2.2.2.2.2.2.2.2.2.2.2.2.1, vB x_13.2.2.2.2.2.2.2.2.2.2.2.2.2.1, vI x_13.2.2.2.2.2.2.2.2.2.2.2.2.2.2.1]) rfl sz29 rfl rfl rfl ⟨(hS.ro 1 rfl).one, rfl, rfl, rfl, rfl, (hS.ro 2 rfl).one, rfl, rfl, rfl, rfl, rfl, rfl, rfl, rfl, rfl, trivial⟩ rfl hS) ?_
 intro w hS
 replace hS : St _ w0 w [OE.bx b_18 [v_14, vS x_13.2.1, vB x_13.2.2.1, vS x_13.2.2.2.1, vB x_13.2.2.2.2.1, v_16, vB x_13.2.2.2.2.2.2.1, vS x_13.2.2.2.2.2.2.2.1, vB x_13.2.2.2.2.2.2.2.2.1, vB x_13.2.2.2.2.2.2.2.2.2.1, vI x_13.2.2.2.2.2.2.2.2.2.2.1, vB x_13.2.2.2.2.2.2.2.2.2.2.2.1, vI x_13.2.2.2.2.2.2.2.2.2.2.2.2.1, vB x_13.2.2.2.2.2.2.2.2.2.2.2.2.2.1, vI x_13.2.2.2.2.2.2.2.2.2.2.2.2.2.2.1], own (eP eI (eP eS (eP eS (eP eB (eP eI eI))))) v_14 x_13.1, own eS v_16 x_13.2.2.2.2.2.1, OE.bx b_10 [v_6, vS x_5.2.1, vB x_5.2.2.1, vS x_5.2.2.2.1, vB x_5.2.2.2.2.1, v_8, vB x_5.2.2.2.2.2.2.1, vS x_5.2.2.2.2.2.2.2.1, vB x_5.2.2.2.2.2.2.2.2.1, vB x_5.2.2.2.2.2.2.2.2.2.1, vI x_5.2.2.2.2.2.2.2.2.2.2.1, vB x_5.2.2.2.2.2.2.2.2.2.2.2.1, vI x_5.2.2.2.2.2.2.2.2.2.2.2.2.1, vB x_5.2.2.2.2.2.2.2.2.2.2.2.2.2.1, vI x_5.2.2.2.2.2.2.2.2.2.2.2.2.2.2.1], own (eP eI (eP eS (eP eS (eP eB (eP eI eI))))) v_6 x_5.1, own eS v_8 x_5.2.2.2.2.2.1, own e8 v_2 x_1.1] := hS
 obtain ⟨x_20, hx_20, h⟩ := olet_some h
 refine wpR_v (OpV_assign (v := vI x_20) (by rw [← hx_20]; rfl)) rfl ?_
 refine wpR_nil ?_
 refine QE_then_n ?_
 refine wpC_seq ?_
 refine seq_join (r := r) (fun (g : Bool) L w => L = [(3, slV v_2 e8.sz 0 x_1.2), (4, pB b_10 0), (6, pB b_18 0), (34, vB g)] ∧ St [] w0 w [own e8 v_2 x_1.1, OE.bx b_10 [v_6, vS x_5.2.1, vB x_5.2.2.1, vS x_5.2.2.2.1, vB x_5.2.2.2.2.1, v_8, vB x_5.2.2.2.2.2.2.1, vS x_5.2.2.2.2.2.2.2.1, vB x_5.2.2.2.2.2.2.2.2.1, vB x_5.2.2.2.2.2.2.2.2.2.1, vI x_5.2.2.2.2.2.2.2.2.2.2.1, vB x_5.2.2.2.2.2.2.2.2.2.2.2.1, vI x_5.2.2.2.2.2.2.2.2.2.2.2.2.1, vB x_5.2.2.2.2.2.2.2.2.2.2.2.2.2.1, vI x_5.2.2.2.2.2.2.2.2.2.2.2.2.2.2.1], own (eP eI (eP eS (eP eS (eP eB (eP eI eI))))) v_6 x_5.1, own eS v_8 x_5.2.2.2.2.2.1, OE.bx b_18 [v_14, vS x_13.2.1, vB x_13.2.2.1, vS x_13.2.2.2.1, vB x_13.2.2.2.2.1, v_16, vB x_13.2.2.2.2.2.2.1, vS x_13.2.2.2.2.2.2.2.1, vB x_13.2.2.2.2.2.2.2.2.1, vB x_13.2.2.2.2.2.2.2.2.2.1, vI x_13.2.2.2.2.2.2.2.2.2.2.1, vB x_13.2.2.2.2.2.2.2.2.2.2.2.1, vI x_13.2.2.2.2.2.2.2.2.2.2.2.2.1, vB x_13.2.2.2.2.2.2.2.2.2.2.2.2.2.1, vI x_13.2.2.2.2.2.2.2.2.2.2.2.2.2.2.1], own (eP eI (eP eS (eP eS (eP eB (eP eI eI))))) v_14 x_13.1, own eS v_16 x_13.2.2.2.2.2.1]) (F.law31_CoseClaims_K1 x_1) ?_ ?_
 ·rintro x_25 L w hJ h
  try dsimp only at hJ
  obtain ⟨rfl, hS⟩ := hJ
  unfold F.law31_CoseClaims_K1 at h
  refine wpC_cond rfl (fun hb_48 => ?_) (fun hb_48 => ?_)
  ·have h := if_t h hb_48
   refine wpC_seq ?_
   refine wpC_region ?_
   refine wpR_v (OpV_assign rfl) rfl ?_
   refine wpR_nil ?_
   refine QE_then_n ?_
   refine wpC_ret ?_
   refine QE_then_r ?_
   cases h
   exact QE_ret1 rfl rfl ⟨rfl, hS.pick [] (by decide) rfl⟩
  ·have h := if_f h hb_48
   refine wpC_skip ?_
   refine QE_then_n ?_
   refine seq_join (r := r) (fun (g : List UInt8) L w => L = [(3, slV v_2 e8.sz 0 x_1.2), (4, pB b_10 0), (6, pB b_18 0)] ∧ x_1.2 ≤ g.length ∧ St [] w0 w [own e8 v_2 g, OE.bx b_10 [v_6, vS x_5.2.1, vB x_5.2.2.1, vS x_5.2.2.2.1, vB x_5.2.2.2.2.1, v_8, vB x_5.2.2.2.2.2.2.1, vS x_5.2.2.2.2.2.2.2.1, vB x_5.2.2.2.2.2.2.2.2.1, vB x_5.2.2.2.2.2.2.2.2.2.1, vI x_5.2.2.2.2.2.2.2.2.2.2.1, vB x_5.2.2.2.2.2.2.2.2.2.2.2.1, vI x_5.2.2.2.2.2.2.2.2.2.2.2.2.1, vB x_5.2.2.2.2.2.2.2.2.2.2.2.2.2.1, vI x_5.2.2.2.2.2.2.2.2.2.2.2.2.2.2.1], own (eP eI (eP eS (eP eS (eP eB (eP eI eI))))) v_6 x_5.1, own eS v_8 x_5.2.2.2.2.2.1, OE.bx b_18 [v_14, vS x_13.2.1, vB x_13.2.2.1, vS x_13.2.2.2.1, vB x_13.2.2.2.2.1, v_16, vB x_13.2.2.2.2.2.2.1, vS x_13.2.2.2.2.2.2.2.1, vB x_13.2.2.2.2.2.2.2.2.1, vB x_13.2.2.2.2.2.2.2.2.2.1, vI x_13.2.2.2.2.2.2.2.2.2.2.1, vB x_13.2.2.2.2.2.2.2.2.2.2.2.1, vI x_13.2.2.2.2.2.2.2.2.2.2.2.2.1, vB x_13.2.2.2.2.2.2.2.2.2.2.2.2.2.1, vI x_13.2.2.2.2.2.2.2.2.2.2.2.2.2.2.1], own (eP eI (eP eS (eP eS (eP eB (eP eI eI))))) v_14 x_13.1, own eS v_16 x_13.2.2.2.2.2.1]) (F.law31_CoseClaims_K2 x_1) ?_ ?_
   ·rintro x_31 L w hJ h
    try dsimp only at hJ
    obtain ⟨rfl, hK_32, hS⟩ := hJ
    unfold F.law31_CoseClaims_K2 at h
    refine wpC_seq ?_
    refine wpC_region ?_
    refine wpR_v (OpV_move rfl) rfl ?_
    obtain ⟨x_34, hx_34, h⟩ := obind_some h
    refine wpR_call (by kernel_rfl) rfl (c_ref31_Claims _ (x_31.take x_1.2) (slV v_2 e8.sz 0 x_1.2)  ((hS.ro 0 rfl).tk hK_32).rp _ hx_34) rfl ?_
    rintro _ w ⟨v_35, v_37, rfl, hS1⟩
    have hS := hS.call hS1
    simp only [List.cons_append, List.nil_append] at hS
    refine wpR_v (OpV_move rfl) rfl ?_
    refine wpR_v (OpV_extract rfl rfl) rfl ?_
    refine wpR_v (OpV_extract rfl rfl) rfl ?_
    refine wpR_y (OpY_stB (i := 6) (us := [v_35, vS x_34.2.1, vB x_34.2.2.1, vS x_34.2.2.2.1, vB x_34.2.2.2.2.1, v_37, vB x_34.2.2.2.2.2.2.1, vS x_34.2.2.2.2.2.2.2.1, vB x_34.2.2.2.2.2.2.2.2.1, vB x_34.2.2.2.2.2.2.2.2.2.1, vI x_34.2.2.2.2.2.2.2.2.2.2.1, vB x_34.2.2.2.2.2.2.2.2.2.2.2.1, vI x_34.2.2.2.2.2.2.2.2.2.2.2.2.1, vB x_34.2.2.2.2.2.2.2.2.2.2.2.2.2.1, vI x_34.2.2.2.2.2.2.2.2.2.2.2.2.2.2.1]) rfl sz29 rfl rfl rfl ⟨(hS.ro 0 rfl).one, rfl, rfl, rfl, rfl, (hS.ro 1 rfl).one, rfl, rfl, rfl, rfl, rfl, rfl, rfl, rfl, rfl, trivial⟩ rfl hS) ?_
    intro w hS
    replace hS : St _ w0 w [own (eP eI (eP eS (eP eS (eP eB (eP eI eI))))) v_35 x_34.1, own eS v_37 x_34.2.2.2.2.2.1, own e8 v_2 x_31, OE.bx b_10 [v_6, vS x_5.2.1, vB x_5.2.2.1, vS x_5.2.2.2.1, vB x_5.2.2.2.2.1, v_8, vB x_5.2.2.2.2.2.2.1, vS x_5.2.2.2.2.2.2.2.1, vB x_5.2.2.2.2.2.2.2.2.1, vB x_5.2.2.2.2.2.2.2.2.2.1, vI x_5.2.2.2.2.2.2.2.2.2.2.1, vB x_5.2.2.2.2.2.2.2.2.2.2.2.1, vI x_5.2.2.2.2.2.2.2.2.2.2.2.2.1, vB x_5.2.2.2.2.2.2.2.2.2.2.2.2.2.1, vI x_5.2.2.2.2.2.2.2.2.2.2.2.2.2.2.1], own (eP eI (eP eS (eP eS (eP eB (eP eI eI))))) v_6 x_5.1, own eS v_8 x_5.2.2.2.2.2.1, OE.bx b_18 [v_35, vS x_34.2.1, vB x_34.2.2.1, vS x_34.2.2.2.1, vB x_34.2.2.2.2.1, v_37, vB x_34.2.2.2.2.2.2.1, vS x_34.2.2.2.2.2.2.2.1, vB x_34.2.2.2.2.2.2.2.2.1, vB x_34.2.2.2.2.2.2.2.2.2.1, vI x_34.2.2.2.2.2.2.2.2.2.2.1, vB x_34.2.2.2.2.2.2.2.2.2.2.2.1, vI x_34.2.2.2.2.2.2.2.2.2.2.2.2.1, vB x_34.2.2.2.2.2.2.2.2.2.2.2.2.2.1, vI x_34.2.2.2.2.2.2.2.2.2.2.2.2.2.2.1], own (eP eI (eP eS (eP eS (eP eB (eP eI eI))))) v_14 x_13.1, own eS v_16 x_13.2.2.2.2.2.1] := hS
    obtain ⟨x_39, hx_39, h⟩ := olet_some h
    refine wpR_v (OpV_assign (v := vI x_39) (by rw [← hx_39]; rfl)) rfl ?_
    refine wpR_nil ?_
    refine QE_then_n ?_
    refine wpC_seq ?_
    refine wpC_region ?_
    refine wpR_v (OpV_move rfl) rfl ?_
    obtain ⟨x_40, hx_40, h⟩ := obind_some h
    refine wpR_call (by kernel_rfl) rfl (c_cose_Claims _ (x_31.take x_1.2) (slV v_2 e8.sz 0 x_1.2)  (hT.now hS.fr) ((hS.ro 2 rfl).tk hK_32).rp _ hx_40) rfl ?_
    rintro _ w ⟨v_41, v_43, rfl, hS1⟩
    have hS := hS.call hS1
    simp only [List.cons_append, List.nil_append] at hS
    refine wpR_v (OpV_move rfl) rfl ?_
    refine wpR_v (OpV_extract rfl rfl) rfl ?_
    refine wpR_v (OpV_extract rfl rfl) rfl ?_
    refine wpR_y (OpY_stB (i := 5) (us := [v_41, vS x_40.2.1, vB x_40.2.2.1, vS x_40.2.2.2.1, vB x_40.2.2.2.2.1, v_43, vB x_40.2.2.2.2.2.2.1, vS x_40.2.2.2.2.2.2.2.1, vB x_40.2.2.2.2.2.2.2.2.1, vB x_40.2.2.2.2.2.2.2.2.2.1, vI x_40.2.2.2.2.2.2.2.2.2.2.1, vB x_40.2.2.2.2.2.2.2.2.2.2.2.1, vI x_40.2.2.2.2.2.2.2.2.2.2.2.2.1, vB x_40.2.2.2.2.2.2.2.2.2.2.2.2.2.1, vI x_40.2.2.2.2.2.2.2.2.2.2.2.2.2.2.1]) rfl sz29 rfl rfl rfl ⟨(hS.ro 0 rfl).one, rfl, rfl, rfl, rfl, (hS.ro 1 rfl).one, rfl, rfl, rfl, rfl, rfl, rfl, rfl, rfl, rfl, trivial⟩ rfl hS) ?_
    intro w hS
    replace hS : St _ w0 w [own (eP eI (eP eS (eP eS (eP eB (eP eI eI))))) v_41 x_40.1, own eS v_43 x_40.2.2.2.2.2.1, own (eP eI (eP eS (eP eS (eP eB (eP eI eI))))) v_35 x_34.1, own eS v_37 x_34.2.2.2.2.2.1, own e8 v_2 x_31, OE.bx b_10 [v_41, vS x_40.2.1, vB x_40.2.2.1, vS x_40.2.2.2.1, vB x_40.2.2.2.2.1, v_43, vB x_40.2.2.2.2.2.2.1, vS x_40.2.2.2.2.2.2.2.1, vB x_40.2.2.2.2.2.2.2.2.1, vB x_40.2.2.2.2.2.2.2.2.2.1, vI x_40.2.2.2.2.2.2.2.2.2.2.1, vB x_40.2.2.2.2.2.2.2.2.2.2.2.1, vI x_40.2.2.2.2.2.2.2.2.2.2.2.2.1, vB x_40.2.2.2.2.2.2.2.2.2.2.2.2.2.1, vI x_40.2.2.2.2.2.2.2.2.2.2.2.2.2.2.1], own (eP eI (eP eS (eP eS (eP eB (eP eI eI))))) v_6 x_5.1, own eS v_8 x_5.2.2.2.2.2.1, OE.bx b_18 [v_35, vS x_34.2.1, vB x_34.2.2.1, vS x_34.2.2.2.1, vB x_34.2.2.2.2.1, v_37, vB x_34.2.2.2.2.2.2.1, vS x_34.2.2.2.2.2.2.2.1, vB x_34.2.2.2.2.2.2.2.2.1, vB x_34.2.2.2.2.2.2.2.2.2.1, vI x_34.2.2.2.2.2.2.2.2.2.2.1, vB x_34.2.2.2.2.2.2.2.2.2.2.2.1, vI x_34.2.2.2.2.2.2.2.2.2.2.2.2.1, vB x_34.2.2.2.2.2.2.2.2.2.2.2.2.2.1, vI x_34.2.2.2.2.2.2.2.2.2.2.2.2.2.2.1], own (eP eI (eP eS (eP eS (eP eB (eP eI eI))))) v_14 x_13.1, own eS v_16 x_13.2.2.2.2.2.1] := hS
    obtain ⟨x_45, hx_45, h⟩ := olet_some h
    refine wpR_v (OpV_assign (v := vI x_45) (by rw [← hx_45]; rfl)) rfl ?_
    refine wpR_nil ?_
    refine QE_then_n ?_
    refine wpC_seq ?_
    refine wpC_region ?_
    refine wpR_v (OpV_move rfl) rfl ?_
    refine wpR_v (OpV_move rfl) rfl ?_
    refine wpR_v (OpV_bin rfl rfl (b_ieql _ x_45 x_39)) rfl ?_
    refine wpR_v (OpV_move rfl) rfl ?_
    cases hb_46 : (x_45 == x_39)
    case true =>
     have h := if_t h hb_46
     try simp only [hb_46]
     refine wpR_gv (t := 63) rfl rfl (OpV_ldBs (us := [v_41, vS x_40.2.1, vB x_40.2.2.1, vS x_40.2.2.2.1, vB x_40.2.2.2.2.1, v_43, vB x_40.2.2.2.2.2.2.1, vS x_40.2.2.2.2.2.2.2.1, vB x_40.2.2.2.2.2.2.2.2.1, vB x_40.2.2.2.2.2.2.2.2.2.1, vI x_40.2.2.2.2.2.2.2.2.2.2.1, vB x_40.2.2.2.2.2.2.2.2.2.2.2.1, vI x_40.2.2.2.2.2.2.2.2.2.2.2.2.1, vB x_40.2.2.2.2.2.2.2.2.2.2.2.2.2.1, vI x_40.2.2.2.2.2.2.2.2.2.2.2.2.2.2.1]) Tryd.underlying29 rfl sz29 rfl (hS.bxs 5 rfl rfl)) rfl ?_
     refine wpR_gv (t := 63) rfl rfl (OpV_ldBs (us := [v_35, vS x_34.2.1, vB x_34.2.2.1, vS x_34.2.2.2.1, vB x_34.2.2.2.2.1, v_37, vB x_34.2.2.2.2.2.2.1, vS x_34.2.2.2.2.2.2.2.1, vB x_34.2.2.2.2.2.2.2.2.1, vB x_34.2.2.2.2.2.2.2.2.2.1, vI x_34.2.2.2.2.2.2.2.2.2.2.1, vB x_34.2.2.2.2.2.2.2.2.2.2.2.1, vI x_34.2.2.2.2.2.2.2.2.2.2.2.2.1, vB x_34.2.2.2.2.2.2.2.2.2.2.2.2.2.1, vI x_34.2.2.2.2.2.2.2.2.2.2.2.2.2.2.1]) Tryd.underlying29 rfl sz29 rfl (hS.bxs 8 rfl rfl)) rfl ?_
     obtain ⟨x_47, hx_47, h⟩ := obind_some h
     refine wpR_gcall (t := 63) rfl rfl (by kernel_rfl) rfl (c_law31_sameClaims _ x_40.1 x_40.2.1 x_40.2.2.1 x_40.2.2.2.1 x_40.2.2.2.2.1 x_40.2.2.2.2.2.1 x_40.2.2.2.2.2.2.1 x_40.2.2.2.2.2.2.2.1 x_40.2.2.2.2.2.2.2.2.1 x_40.2.2.2.2.2.2.2.2.2.1 x_40.2.2.2.2.2.2.2.2.2.2.1 x_40.2.2.2.2.2.2.2.2.2.2.2.1 x_40.2.2.2.2.2.2.2.2.2.2.2.2.1 x_40.2.2.2.2.2.2.2.2.2.2.2.2.2.1 x_40.2.2.2.2.2.2.2.2.2.2.2.2.2.2.1 x_34.1 x_34.2.1 x_34.2.2.1 x_34.2.2.2.1 x_34.2.2.2.2.1 x_34.2.2.2.2.2.1 x_34.2.2.2.2.2.2.1 x_34.2.2.2.2.2.2.2.1 x_34.2.2.2.2.2.2.2.2.1 x_34.2.2.2.2.2.2.2.2.2.1 x_34.2.2.2.2.2.2.2.2.2.2.1 x_34.2.2.2.2.2.2.2.2.2.2.2.1 x_34.2.2.2.2.2.2.2.2.2.2.2.2.1 x_34.2.2.2.2.2.2.2.2.2.2.2.2.2.1 x_34.2.2.2.2.2.2.2.2.2.2.2.2.2.2.1 v_41 v_43 v_35 v_37  (hS.ro 0 rfl).rp (hS.ro 1 rfl).rp (hS.ro 2 rfl).rp (hS.ro 3 rfl).rp _ hx_47) rfl ?_
     rintro _ w ⟨rfl, hS1⟩
     have hS := hS.call hS1
     simp only [List.cons_append, List.nil_append] at hS
     refine wpR_v (OpV_pickT rfl rfl) rfl ?_
     refine wpR_v (OpV_assign rfl) rfl ?_
     refine wpR_nil ?_
     refine QE_then_n ?_
     refine wpC_ret ?_
     cases h
     exact QE_ret1 rfl rfl ⟨rfl, hS.pick [] (by decide) rfl⟩
    case false =>
     have h := if_f h hb_46
     try simp only [hb_46]
     refine wpR_gskip (b := false) (t := 63) rfl rfl rfl rfl ?_
     refine wpR_gskip (b := false) (t := 63) rfl rfl rfl rfl ?_
     refine wpR_gskip (b := false) (t := 63) rfl rfl rfl rfl ?_
     refine wpR_v (OpV_pickF rfl rfl) rfl ?_
     refine wpR_v (OpV_assign rfl) rfl ?_
     refine wpR_nil ?_
     refine QE_then_n ?_
     refine wpC_ret ?_
     cases h
     exact QE_ret1 rfl rfl ⟨rfl, hS.pick [] (by decide) rfl⟩
   ·intro hK_33
    refine wpC_seq ?_
    refine wpC_region ?_
    refine wpR_v (OpV_move rfl) rfl ?_
    refine wpR_v (OpV_len Tryd.underlying22 rfl ((hS.ro 0 rfl).tk hk_4)) rfl ?_
    refine wpR_v (OpV_bin rfl rfl (b_igtr _ ((x_1.1.take x_1.2).length : Int) 0)) rfl ?_
    refine wpR_nil ?_
    refine QE_then_n ?_
    refine wpC_cond rfl (fun hb_30 => ?_) (fun hb_30 => ?_)
    ·have h := if_t h hb_30
     refine wpC_region ?_
     refine wpR_v (OpV_move rfl) rfl ?_
     refine wpR_v (OpV_move rfl) rfl ?_
     refine wpR_v (OpV_len Tryd.underlying22 rfl ((hS.ro 0 rfl).tk hk_4)) rfl ?_
     refine wpR_v (OpV_bin rfl rfl (b_iquo _ ((x_1.1.take x_1.2).length : Int) 2 (by decide))) rfl ?_
     refine wpR_v (OpV_move rfl) rfl ?_
     refine wpR_v (OpV_move rfl) rfl ?_
     refine wpR_v (OpV_len Tryd.underlying22 rfl ((hS.ro 0 rfl).tk hk_4)) rfl ?_
     refine wpR_v (OpV_bin rfl rfl (b_iquo _ ((x_1.1.take x_1.2).length : Int) 2 (by decide))) rfl ?_
     obtain ⟨x_27, hx_27, h⟩ := obind_some h
     refine wpR_v (G_ix_room Tryd.underlying22 ti5 rfl rfl (hS.ro 0 rfl) hk_4 hx_27) rfl ?_
     refine wpR_v (G_load Tryd.underlying5 rfl rfl (hS.ro 0 rfl) (getO_take hx_27) rfl) rfl ?_
     refine wpR_v (OpV_bin rfl rfl (b_xor8 _ x_27 1)) rfl ?_
     obtain ⟨x_28, hx_28, h⟩ := obind_some h
     refine wpR_v (G_ix_room Tryd.underlying22 ti5 rfl rfl (hS.ro 0 rfl) hk_4 hx_28) rfl ?_
     refine wpR_y (G_storeE (t := (x_27 ^^^ 1)) ti5 rfl rfl hS (i := 0) rfl (getO_take hx_28) rfl) ?_
     intro w hS
     obtain ⟨x_29, hx_29, h⟩ := olet_some h
     rw [hx_29] at hS
     refine wpR_nil ?_
     refine QE_then_n ?_
     exact wpC_le _ (by exact ⟨rfl, rfl, rfl, trivial⟩) (hK_33 x_29 _ _ ⟨rfl, (by rw [← hx_29, List.length_set]; exact hk_4), hS⟩ h)
    ·have h := if_f h hb_30
     refine wpC_skip ?_
     refine QE_then_n ?_
     exact wpC_le _ (by exact ⟨rfl, rfl, rfl, trivial⟩) (hK_33 x_1.1 _ _ ⟨rfl, hk_4, hS⟩ h)
 ·intro hK_26
  refine wpC_region ?_
  refine wpR_v (OpV_move rfl) rfl ?_
  refine wpR_v (OpV_move rfl) rfl ?_
  refine wpR_v (OpV_bin rfl rfl (b_ineq _ x_12 x_20)) rfl ?_
  refine wpR_v (OpV_move rfl) rfl ?_
  cases hb_21 : (x_12 != x_20)
  case true =>
   have h := if_t h hb_21
   try simp only [hb_21]
   refine wpR_gskip (b := true) (t := 23) rfl rfl rfl rfl ?_
   refine wpR_gskip (b := true) (t := 23) rfl rfl rfl rfl ?_
   refine wpR_gskip (b := true) (t := 23) rfl rfl rfl rfl ?_
   refine wpR_gskip (b := true) (t := 23) rfl rfl rfl rfl ?_
   refine wpR_v (OpV_pickT rfl rfl) rfl ?_
   refine wpR_v (OpV_move rfl) rfl ?_
   refine wpR_gskip (b := true) (t := 29) rfl rfl rfl rfl ?_
   refine wpR_gskip (b := true) (t := 29) rfl rfl rfl rfl ?_
   refine wpR_gskip (b := true) (t := 29) rfl rfl rfl rfl ?_
   refine wpR_gskip (b := true) (t := 29) rfl rfl rfl rfl ?_
   refine wpR_v (OpV_pickT rfl rfl) rfl ?_
   refine wpR_nil ?_
   refine QE_then_n ?_
   exact wpC_le _ (by exact ⟨rfl, rfl, rfl, rfl, trivial⟩) (hK_26 true _ _ ⟨rfl, (hS.pick [6, 3, 4, 5, 0, 1, 2] (by decide) rfl)⟩ h)
  case false =>
   have h := if_f h hb_21
   try simp only [hb_21]
   refine wpR_gv (t := 23) rfl rfl (OpV_ldBs (us := [v_6, vS x_5.2.1, vB x_5.2.2.1, vS x_5.2.2.2.1, vB x_5.2.2.2.2.1, v_8, vB x_5.2.2.2.2.2.2.1, vS x_5.2.2.2.2.2.2.2.1, vB x_5.2.2.2.2.2.2.2.2.1, vB x_5.2.2.2.2.2.2.2.2.2.1, vI x_5.2.2.2.2.2.2.2.2.2.2.1, vB x_5.2.2.2.2.2.2.2.2.2.2.2.1, vI x_5.2.2.2.2.2.2.2.2.2.2.2.2.1, vB x_5.2.2.2.2.2.2.2.2.2.2.2.2.2.1, vI x_5.2.2.2.2.2.2.2.2.2.2.2.2.2.2.1]) Tryd.underlying29 rfl sz29 rfl (hS.bxs 3 rfl rfl)) rfl ?_
   refine wpR_gv (t := 23) rfl rfl (OpV_ldBs (us := [v_14, vS x_13.2.1, vB x_13.2.2.1, vS x_13.2.2.2.1, vB x_13.2.2.2.2.1, v_16, vB x_13.2.2.2.2.2.2.1, vS x_13.2.2.2.2.2.2.2.1, vB x_13.2.2.2.2.2.2.2.2.1, vB x_13.2.2.2.2.2.2.2.2.2.1, vI x_13.2.2.2.2.2.2.2.2.2.2.1, vB x_13.2.2.2.2.2.2.2.2.2.2.2.1, vI x_13.2.2.2.2.2.2.2.2.2.2.2.2.1, vB x_13.2.2.2.2.2.2.2.2.2.2.2.2.2.1, vI x_13.2.2.2.2.2.2.2.2.2.2.2.2.2.2.1]) Tryd.underlying29 rfl sz29 rfl (hS.bxs 0 rfl rfl)) rfl ?_
   obtain ⟨x_22, hx_22, h⟩ := obind_some h
   refine wpR_gcall (t := 23) rfl rfl (by kernel_rfl) rfl (c_law31_sameClaims _ x_5.1 x_5.2.1 x_5.2.2.1 x_5.2.2.2.1 x_5.2.2.2.2.1 x_5.2.2.2.2.2.1 x_5.2.2.2.2.2.2.1 x_5.2.2.2.2.2.2.2.1 x_5.2.2.2.2.2.2.2.2.1 x_5.2.2.2.2.2.2.2.2.2.1 x_5.2.2.2.2.2.2.2.2.2.2.1 x_5.2.2.2.2.2.2.2.2.2.2.2.1 x_5.2.2.2.2.2.2.2.2.2.2.2.2.1 x_5.2.2.2.2.2.2.2.2.2.2.2.2.2.1 x_5.2.2.2.2.2.2.2.2.2.2.2.2.2.2.1 x_13.1 x_13.2.1 x_13.2.2.1 x_13.2.2.2.1 x_13.2.2.2.2.1 x_13.2.2.2.2.2.1 x_13.2.2.2.2.2.2.1 x_13.2.2.2.2.2.2.2.1 x_13.2.2.2.2.2.2.2.2.1 x_13.2.2.2.2.2.2.2.2.2.1 x_13.2.2.2.2.2.2.2.2.2.2.1 x_13.2.2.2.2.2.2.2.2.2.2.2.1 x_13.2.2.2.2.2.2.2.2.2.2.2.2.1 x_13.2.2.2.2.2.2.2.2.2.2.2.2.2.1 x_13.2.2.2.2.2.2.2.2.2.2.2.2.2.2.1 v_6 v_8 v_14 v_16  (hS.ro 4 rfl).rp (hS.ro 5 rfl).rp (hS.ro 1 rfl).rp (hS.ro 2 rfl).rp _ hx_22) rfl ?_
   rintro _ w ⟨rfl, hS1⟩
   have hS := hS.call hS1
   simp only [List.cons_append, List.nil_append] at hS
   refine wpR_gv (t := 23) rfl rfl (OpV_un rfl (u_not x_22)) rfl ?_
   refine wpR_v (OpV_pickF rfl rfl) rfl ?_
   refine wpR_v (OpV_move rfl) rfl ?_
   cases hb_23 : (!x_22)
   case true =>
    have h := if_t h hb_23
    try simp only [hb_23]
    refine wpR_gskip (b := true) (t := 29) rfl rfl rfl rfl ?_
    refine wpR_gskip (b := true) (t := 29) rfl rfl rfl rfl ?_
    refine wpR_gskip (b := true) (t := 29) rfl rfl rfl rfl ?_
    refine wpR_gskip (b := true) (t := 29) rfl rfl rfl rfl ?_
    refine wpR_v (OpV_pickT rfl rfl) rfl ?_
    refine wpR_nil ?_
    refine QE_then_n ?_
    exact wpC_le _ (by exact ⟨rfl, rfl, rfl, rfl, trivial⟩) (hK_26 true _ _ ⟨rfl, (hS.pick [6, 3, 4, 5, 0, 1, 2] (by decide) rfl)⟩ h)
   case false =>
    have h := if_f h hb_23
    try simp only [hb_23]
    refine wpR_gv (t := 29) rfl rfl (OpV_move rfl) rfl ?_
    refine wpR_gv (t := 29) rfl rfl (OpV_move rfl) rfl ?_
    obtain ⟨x_24, hx_24, h⟩ := obind_some h
    refine wpR_gcall (t := 29) rfl rfl (by kernel_rfl) rfl (c_law31_spared _ x_1.1 x_1.2 a0 v_2 va0  (hS.ro 6 rfl).rp hk_4 (ha0.now hS.fr).rp _ hx_24) rfl ?_
    rintro _ w ⟨rfl, hS1⟩
    have hS := hS.call hS1
    simp only [List.cons_append, List.nil_append] at hS
    refine wpR_gv (t := 29) rfl rfl (OpV_un rfl (u_not x_24)) rfl ?_
    refine wpR_v (OpV_pickF rfl rfl) rfl ?_
    refine wpR_nil ?_
    refine QE_then_n ?_
    exact wpC_le _ (by exact ⟨rfl, rfl, rfl, rfl, trivial⟩) (hK_26 (!x_24) _ _ ⟨rfl, (hS.pick [6, 3, 4, 5, 0, 1, 2] (by decide) rfl)⟩ h)
end Go.Proofs
