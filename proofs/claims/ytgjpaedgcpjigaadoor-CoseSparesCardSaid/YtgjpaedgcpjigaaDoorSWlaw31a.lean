import Derived.Test.YtgjpaedgcpjigaaDoorSW0
import Derived.Test.YtgjpaedgcpjigaaDoorGkFlaw31
import Derived.Test.YtgjpaedgcpjigaaDoorSWcoseb
import Derived.Test.YtgjpaedgcpjigaaDoorSWref31
set_option linter.unusedVariables false
set_option linter.unusedSimpArgs false
set_option linter.unusedVariables false
set_option maxRecDepth 4000
namespace Go.Proofs
open Go Go.RowKit Go.Gk
theorem c_law31_roomy (w0 : World) (a0 : List UInt8) (va0 : Value) (ha0 : RP [] w0 e8 va0 a0) (r : (List UInt8 × Nat))
  (h : F.law31_roomy a0 = some r) : Calls Tryd.prog 8 #[va0] w0 (Ret fun v w => ∃ u0 : Value, v = slV u0 e8.sz 0 r.2 ∧ r.2 ≤ r.1.length ∧ St [] w0 w [own e8 u0 r.1]) := by
 refine calls_at 19 Tryd.func8 rfl rfl rfl ?_
 have hS := St.start w0
 refine wpC_le [(0, va0)] ⟨rfl, trivial⟩ ?_
 unfold F.law31_roomy at h
 refine wpC_seq (wpC_region (wpR_run 1 rfl ?_))
 refine wpR_nil (QE_then_n (wpC_seq (wpC_region (wpR_run 1 rfl ?_))))
 refine wpR_nil (QE_then_n (wpC_seq (wpC_region (wpR_run 2 rfl ?_))))
 obtain ⟨x_1, hx_1, h⟩ := obind_some h
 refine wpR_x (G_append0 Tryd.underlying22 ti5 rfl rfl rfl hS (ha0.now hS.fr) hx_1) rfl ?_
 rintro v_2 w hS
 refine wpR_run 1 rfl ?_
 refine wpR_nil (QE_then_n (wpC_seq (wpC_seq (wpC_region (wpR_run 1 rfl ?_)))))
 refine wpR_nil (QE_then_n (wpC_block ?_))
 refine wpC_le [(0, va0), (3, v_2), (4, vI 0)] ⟨rfl, rfl, rfl, trivial⟩ ?_
 refine loop_ind (F.law31_roomy_L1 a0) (fun (s : List UInt8 × Int) L w => ∃ (v_5 : Value), L = [(0, va0), (3, v_5), (4, vI s.2)] ∧ St [] w0 w [own e8 v_5 s.1]) ?_ (x_1, 0) ⟨v_2, rfl, hS⟩ h
 rintro k_18 ⟨x_4, x_7⟩ L w q_10 hI ih_9 h hk_8
 try dsimp only at hI
 obtain ⟨v_5, rfl, hS⟩ := hI
 unfold F.law31_roomy_L1 at h
 refine wpC_seq (wpC_seq (wpC_region (wpR_run 2 rfl ?_)))
 refine wpR_nil (QE_then_n ?_)
 refine wpC_cond rfl (fun hb_17 => ?_) (fun hb_17 => ?_)
 ·have h := if_t h hb_17
  refine wpC_skip (QE_then_n (wpC_seq (wpC_block ?_)))
  refine wpC_region (wpR_run 1 rfl ?_)
  refine wpR_x (OpX_lit (e := e8) (l := [165]) (vs := [v8 165]) Tryd.underlying22 ti5 rfl rfl rfl rfl (by decide) (by decide) hS) rfl ?_
  rintro v_11 w hS
  obtain ⟨x_13, hx_13, h⟩ := obind_some h
  refine wpR_x (G_append Tryd.underlying22 ti5 rfl rfl rfl hS (i := 1) rfl (hS.ro 0 rfl) hx_13) rfl ?_
  rintro v_14 w hS
  refine wpR_run 1 rfl ?_
  refine wpR_nil (QE_blk_n ?_)
  refine QE_then_n (wpC_region (wpR_run 3 rfl ?_))
  refine wpR_nil ?_
  exact QE_rnd (wpN_le _ (by exact ⟨rfl, rfl, rfl, trivial⟩) (ih_9 (x_13, wI (x_7 + 1)) _ _ ⟨v_14, rfl, (hS.pick [1] (by decide) rfl)⟩ (oinl_some h hk_8)))
 have h := if_f h hb_17
 refine wpC_exit ?_
 refine QE_then_x (QE_then_x ?_)
 have h := oinr_some h hk_8
 refine QE_blk_x ?_
 refine QE_then_n (wpC_seq (wpC_region (wpR_run 2 rfl ?_)))
 refine wpR_v (OpV_len Tryd.underlying22 rfl (ha0.now hS.fr)) rfl ?_
 obtain ⟨hg_16, h⟩ := grd_some h
 refine wpR_v (G_slh Tryd.underlying22 ti5 rfl rfl (hS.ro 0 rfl) (tkO_of hg_16)) rfl ?_
 refine wpR_run 1 rfl ?_
 refine wpR_nil (QE_then_n (wpC_ret ?_))
 cases h
 exact QE_ret1 rfl rfl ⟨v_5, rfl, hg_16.2, hS.pick [0] (by decide) rfl⟩
theorem c_law31_sameTexts (w0 : World) (a0 : List (List UInt8)) (a1 : List (List UInt8)) (va0 : Value) (va1 : Value) (ha0 : RP [] w0 eS va0 a0) (ha1 : RP [] w0 eS va1 a1) (r : Bool)
  (h : F.law31_sameTexts a0 a1 = some r) : Calls Tryd.prog 20 #[va0, va1] w0 (Ret fun v w => v = vB r ∧ St [] w0 w []) := by
 refine calls_at 26 Tryd.func20 rfl rfl rfl ?_
 have hS := St.start w0
 refine wpC_le [(0, va0), (1, va1)] ⟨rfl, rfl, trivial⟩ ?_
 unfold F.law31_sameTexts at h
 refine wpC_seq (wpC_region (wpR_run 1 rfl ?_))
 refine wpR_nil (QE_then_n (wpC_seq (wpC_seq (wpC_region (wpR_run 1 rfl ?_)))))
 refine wpR_v (OpV_len Tryd.underlying25 rfl (ha0.now hS.fr)) rfl ?_
 refine wpR_run 1 rfl ?_
 refine wpR_v (OpV_len Tryd.underlying25 rfl (ha1.now hS.fr)) rfl ?_
 refine wpR_run 1 rfl ?_
 refine wpR_nil (QE_then_n ?_)
 refine wpC_cond rfl (fun hb_10 => ?_) (fun hb_10 => ?_)
 ·have h := if_t h hb_10
  refine wpC_seq (wpC_region (wpR_run 1 rfl ?_))
  refine wpR_nil (QE_then_n (wpC_ret (QE_then_r ?_)))
  cases h
  exact QE_ret1 rfl rfl ⟨rfl, hS⟩
 have h := if_f h hb_10
 refine wpC_skip (QE_then_n (wpC_seq (wpC_seq (wpC_region (wpR_run 1 rfl ?_)))))
 refine wpR_nil (QE_then_n (wpC_block ?_))
 refine wpC_le [(0, va0), (1, va1), (5, vI 0)] ⟨rfl, rfl, rfl, trivial⟩ ?_
 refine loop_ind (F.law31_sameTexts_L1 a0 a1) (fun (s : Int) L w => L = [(0, va0), (1, va1), (5, vI s)] ∧ St [] w0 w []) ?_ 0 ⟨rfl, hS⟩ h
 rintro k_9 x_1 L w q_4 hI ih_3 h hk_2
 try dsimp only at hI
 obtain ⟨rfl, hS⟩ := hI
 unfold F.law31_sameTexts_L1 at h
 refine wpC_seq (wpC_seq (wpC_region (wpR_run 2 rfl ?_)))
 refine wpR_v (OpV_len Tryd.underlying25 rfl (ha0.now hS.fr)) rfl ?_
 refine wpR_run 1 rfl ?_
 refine wpR_nil (QE_then_n ?_)
 refine wpC_cond rfl (fun hb_8 => ?_) (fun hb_8 => ?_)
 ·have h := if_t h hb_8
  refine wpC_skip (QE_then_n (wpC_seq (wpC_block ?_)))
  refine wpC_seq ?_
  refine wpC_regionT (fun w' => St [] w0 w' []) (fun _ => true) hmix (fun _ _ _ hf => hf.2) (fun _ _ hf => hf) (by kernel_rfl) ?_
  have hS := hS.drew
  show lxE _ _ _ _ _ _ _ [0, 1, 2, 3, 4, 5, 6, 7, 8] _ _
  refine lxE_v hS rfl rfl (fun w hF => OpV_move rfl) rfl ?_
  refine lxE_v hS rfl rfl (fun w hF => OpV_move rfl) rfl ?_
  obtain ⟨x_5, hx_5, h⟩ := obind_some h
  refine lxE_v hS rfl rfl (fun w hF => G_ix Tryd.underlying25 ti9 rfl rfl (ha0.now hF.fr) hx_5) rfl ?_
  refine lxE_v hS rfl rfl (fun w hF => G_load Tryd.underlying9 rfl rfl (ha0.now hF.fr) hx_5 rfl) rfl ?_
  refine lxE_v hS rfl rfl (fun w hF => OpV_move rfl) rfl ?_
  refine lxE_v hS rfl rfl (fun w hF => OpV_move rfl) rfl ?_
  obtain ⟨x_6, hx_6, h⟩ := obind_some h
  refine lxE_v hS rfl rfl (fun w hF => G_ix Tryd.underlying25 ti9 rfl rfl (ha1.now hF.fr) hx_6) rfl ?_
  refine lxE_v hS rfl rfl (fun w hF => G_load Tryd.underlying9 rfl rfl (ha1.now hF.fr) hx_6 rfl) rfl ?_
  refine lxE_v hS rfl rfl (fun w hF => OpV_bin rfl rfl (b_sneq _ x_5 x_6)) rfl ?_
  refine lxE_nil hS ?_
  refine QE_then_n ?_
  refine wpC_cond rfl (fun hb_7 => ?_) (fun hb_7 => ?_)
  ·have h := if_t h hb_7
   refine wpC_seq (wpC_region (wpR_run 1 rfl ?_))
   refine wpR_nil (QE_then_n (wpC_ret (QE_blk_r ?_)))
   refine QE_then_r (QE_then_r ?_)
   have h := oinr_some h hk_2
   refine QE_blk_r ?_
   refine QE_then_r ?_
   cases h
   exact QE_ret1 rfl rfl ⟨rfl, hS⟩
  have h := if_f h hb_7
  refine wpC_skip (QE_blk_n ?_)
  refine QE_then_n (wpC_region (wpR_run 3 rfl ?_))
  refine wpR_nil ?_
  exact QE_rnd (wpN_le _ (by exact ⟨rfl, rfl, rfl, trivial⟩) (ih_3 (wI (x_1 + 1)) _ _ ⟨rfl, hS⟩ (oinl_some h hk_2)))
 have h := if_f h hb_8
 refine wpC_exit ?_
 refine QE_then_x (QE_then_x ?_)
 have h := oinr_some h hk_2
 refine QE_blk_x ?_
 refine QE_then_n (wpC_seq (wpC_region (wpR_run 1 rfl ?_)))
 refine wpR_nil (QE_then_n (wpC_ret ?_))
 cases h
 exact QE_ret1 rfl rfl ⟨rfl, hS⟩
theorem c_law31_sameClaims (w0 : World) (a0_0 : List (Int × (List UInt8) × (List UInt8) × Bool × Int × Int)) (a0_1 : List UInt8) (a0_2 : Bool) (a0_3 : List UInt8) (a0_4 : Bool) (a0_5 : List (List UInt8)) (a0_6 : Bool) (a0_7 : List UInt8) (a0_8 : Bool) (a0_9 : Bool) (a0_10 : Int) (a0_11 : Bool) (a0_12 : Int) (a0_13 : Bool) (a0_14 : Int) (a1_0 : List (Int × (List UInt8) × (List UInt8) × Bool × Int × Int)) (a1_1 : List UInt8) (a1_2 : Bool) (a1_3 : List UInt8) (a1_4 : Bool) (a1_5 : List (List UInt8)) (a1_6 : Bool) (a1_7 : List UInt8) (a1_8 : Bool) (a1_9 : Bool) (a1_10 : Int) (a1_11 : Bool) (a1_12 : Int) (a1_13 : Bool) (a1_14 : Int) (va0_0 : Value) (va0_5 : Value) (va1_0 : Value) (va1_5 : Value) (ha0_0 : RP [] w0 (eP eI (eP eS (eP eS (eP eB (eP eI eI))))) va0_0 a0_0) (ha0_5 : RP [] w0 eS va0_5 a0_5) (ha1_0 : RP [] w0 (eP eI (eP eS (eP eS (eP eB (eP eI eI))))) va1_0 a1_0) (ha1_5 : RP [] w0 eS va1_5 a1_5) (r : Bool)
  (h : F.law31_sameClaims a0_0 a0_1 a0_2 a0_3 a0_4 a0_5 a0_6 a0_7 a0_8 a0_9 a0_10 a0_11 a0_12 a0_13 a0_14 a1_0 a1_1 a1_2 a1_3 a1_4 a1_5 a1_6 a1_7 a1_8 a1_9 a1_10 a1_11 a1_12 a1_13 a1_14 = some r) : Calls Tryd.prog 11 #[.agg #[va0_0, vS a0_1, vB a0_2, vS a0_3, vB a0_4, va0_5, vB a0_6, vS a0_7, vB a0_8, vB a0_9, vI a0_10, vB a0_11, vI a0_12, vB a0_13, vI a0_14], .agg #[va1_0, vS a1_1, vB a1_2, vS a1_3, vB a1_4, va1_5, vB a1_6, vS a1_7, vB a1_8, vB a1_9, vI a1_10, vB a1_11, vI a1_12, vB a1_13, vI a1_14]] w0 (Ret fun v w => v = vB r ∧ St [] w0 w []) := by
 refine calls_at 92 Tryd.func11 rfl rfl rfl ?_
 have hS := St.start w0
 refine wpC_le [(0, .agg #[va0_0, vS a0_1, vB a0_2, vS a0_3, vB a0_4, va0_5, vB a0_6, vS a0_7, vB a0_8, vB a0_9, vI a0_10, vB a0_11, vI a0_12, vB a0_13, vI a0_14]), (1, .agg #[va1_0, vS a1_1, vB a1_2, vS a1_3, vB a1_4, va1_5, vB a1_6, vS a1_7, vB a1_8, vB a1_9, vI a1_10, vB a1_11, vI a1_12, vB a1_13, vI a1_14])] ⟨rfl, rfl, trivial⟩ ?_
 unfold F.law31_sameClaims at h
 refine wpC_seq (wpC_region (wpR_x (OpX_box (cs := [va0_0, vS a0_1, vB a0_2, vS a0_3, vB a0_4, va0_5, vB a0_6, vS a0_7, vB a0_8, vB a0_9, vI a0_10, vB a0_11, vI a0_12, vB a0_13, vI a0_14]) rfl rfl hS) rfl ?_))
 rintro _ w ⟨b_1, rfl, hS⟩
 refine wpR_x (OpX_box (cs := [va1_0, vS a1_1, vB a1_2, vS a1_3, vB a1_4, va1_5, vB a1_6, vS a1_7, vB a1_8, vB a1_9, vI a1_10, vB a1_11, vI a1_12, vB a1_13, vI a1_14]) rfl rfl hS) rfl ?_
 rintro _ w ⟨b_3, rfl, hS⟩
 refine wpR_run 1 rfl ?_
 refine wpR_nil (QE_then_n (wpC_seq (wpC_region (wpR_v (OpV_fieldB (k := 1) Tryd.underlying29 rfl rfl nz9 rfl) rfl ?_))))
 refine wpR_v (OpV_ldB Tryd.underlying9 rfl rfl (hS.bxc 1 rfl 1)) rfl ?_
 refine wpR_v (OpV_fieldB (k := 1) Tryd.underlying29 rfl rfl nz9 rfl) rfl ?_
 refine wpR_v (OpV_ldB Tryd.underlying9 rfl rfl (hS.bxc 0 rfl 1)) rfl ?_
 refine wpR_v (OpV_bin rfl rfl (b_seql _ a0_1 a1_1)) rfl ?_
 refine wpR_run 1 rfl ?_
 cases hb_5 : (a0_1 == a1_1)
 case true =>
  have h := if_t h hb_5
  try simp only [hb_5]
  refine wpR_gv (t := 10) rfl rfl (OpV_fieldB (k := 2) Tryd.underlying29 rfl rfl nz4 rfl) rfl ?_
  refine wpR_gv (t := 10) rfl rfl (OpV_ldB Tryd.underlying4 rfl rfl (hS.bxc 1 rfl 2)) rfl ?_
  refine wpR_gv (t := 10) rfl rfl (OpV_fieldB (k := 2) Tryd.underlying29 rfl rfl nz4 rfl) rfl ?_
  refine wpR_gv (t := 10) rfl rfl (OpV_ldB Tryd.underlying4 rfl rfl (hS.bxc 0 rfl 2)) rfl ?_
  refine wpR_gv (t := 10) rfl rfl (OpV_bin rfl rfl (b_beql _ a0_2 a1_2 Tryd.underlying4 rfl)) rfl ?_
  refine wpR_run 2 rfl ?_
  cases hb_6 : (a0_2 == a1_2)
  case true =>
   have h := if_t h hb_6
   try simp only [hb_6]
   refine wpR_gv (t := 17) rfl rfl (OpV_fieldB (k := 3) Tryd.underlying29 rfl rfl nz9 rfl) rfl ?_
   refine wpR_gv (t := 17) rfl rfl (OpV_ldB Tryd.underlying9 rfl rfl (hS.bxc 1 rfl 3)) rfl ?_
   refine wpR_gv (t := 17) rfl rfl (OpV_fieldB (k := 3) Tryd.underlying29 rfl rfl nz9 rfl) rfl ?_
   refine wpR_gv (t := 17) rfl rfl (OpV_ldB Tryd.underlying9 rfl rfl (hS.bxc 0 rfl 3)) rfl ?_
   refine wpR_gv (t := 17) rfl rfl (OpV_bin rfl rfl (b_seql _ a0_3 a1_3)) rfl ?_
   refine wpR_run 2 rfl ?_
   cases hb_7 : (a0_3 == a1_3)
   case true =>
    have h := if_t h hb_7
    try simp only [hb_7]
    refine wpR_gv (t := 24) rfl rfl (OpV_fieldB (k := 4) Tryd.underlying29 rfl rfl nz4 rfl) rfl ?_
    refine wpR_gv (t := 24) rfl rfl (OpV_ldB Tryd.underlying4 rfl rfl (hS.bxc 1 rfl 4)) rfl ?_
    refine wpR_gv (t := 24) rfl rfl (OpV_fieldB (k := 4) Tryd.underlying29 rfl rfl nz4 rfl) rfl ?_
    refine wpR_gv (t := 24) rfl rfl (OpV_ldB Tryd.underlying4 rfl rfl (hS.bxc 0 rfl 4)) rfl ?_
    refine wpR_gv (t := 24) rfl rfl (OpV_bin rfl rfl (b_beql _ a0_4 a1_4 Tryd.underlying4 rfl)) rfl ?_
    refine wpR_run 2 rfl ?_
    cases hb_8 : (a0_4 == a1_4)
    case true =>
     have h := if_t h hb_8
     try simp only [hb_8]
     refine wpR_gv (t := 31) rfl rfl (OpV_fieldB (k := 5) Tryd.underlying29 rfl rfl nz25 rfl) rfl ?_
     refine wpR_gv (t := 31) rfl rfl (OpV_ldB Tryd.underlying25 rfl rfl (hS.bxc 1 rfl 5)) rfl ?_
     refine wpR_gv (t := 31) rfl rfl (OpV_fieldB (k := 5) Tryd.underlying29 rfl rfl nz25 rfl) rfl ?_
     refine wpR_gv (t := 31) rfl rfl (OpV_ldB Tryd.underlying25 rfl rfl (hS.bxc 0 rfl 5)) rfl ?_
     obtain ⟨x_9, hx_9, h⟩ := obind_some h
     refine wpR_gcall (t := 31) rfl rfl (by kernel_rfl) rfl (c_law31_sameTexts _ a0_5 a1_5 va0_5 va1_5  (ha0_5.now hS.fr).rp (ha1_5.now hS.fr).rp _ hx_9) rfl ?_
     rintro _ w ⟨rfl, hS1⟩
     have hS := hS.call hS1
     simp only [List.cons_append, List.nil_append] at hS
     refine wpR_run 2 rfl ?_
     cases hb_10 : x_9
     case true =>
      have h := if_t h hb_10
      try simp only [hb_10]
      refine wpR_gv (t := 38) rfl rfl (OpV_fieldB (k := 6) Tryd.underlying29 rfl rfl nz4 rfl) rfl ?_
      refine wpR_gv (t := 38) rfl rfl (OpV_ldB Tryd.underlying4 rfl rfl (hS.bxc 1 rfl 6)) rfl ?_
      refine wpR_gv (t := 38) rfl rfl (OpV_fieldB (k := 6) Tryd.underlying29 rfl rfl nz4 rfl) rfl ?_
      refine wpR_gv (t := 38) rfl rfl (OpV_ldB Tryd.underlying4 rfl rfl (hS.bxc 0 rfl 6)) rfl ?_
      refine wpR_gv (t := 38) rfl rfl (OpV_bin rfl rfl (b_beql _ a0_6 a1_6 Tryd.underlying4 rfl)) rfl ?_
      refine wpR_run 2 rfl ?_
      cases hb_11 : (a0_6 == a1_6)
      case true =>
       have h := if_t h hb_11
       try simp only [hb_11]
       refine wpR_gv (t := 45) rfl rfl (OpV_fieldB (k := 7) Tryd.underlying29 rfl rfl nz9 rfl) rfl ?_
       refine wpR_gv (t := 45) rfl rfl (OpV_ldB Tryd.underlying9 rfl rfl (hS.bxc 1 rfl 7)) rfl ?_
       refine wpR_gv (t := 45) rfl rfl (OpV_fieldB (k := 7) Tryd.underlying29 rfl rfl nz9 rfl) rfl ?_
       refine wpR_gv (t := 45) rfl rfl (OpV_ldB Tryd.underlying9 rfl rfl (hS.bxc 0 rfl 7)) rfl ?_
       refine wpR_gv (t := 45) rfl rfl (OpV_bin rfl rfl (b_seql _ a0_7 a1_7)) rfl ?_
       refine wpR_run 2 rfl ?_
       cases hb_12 : (a0_7 == a1_7)
       case true =>
        have h := if_t h hb_12
        try simp only [hb_12]
        refine wpR_gv (t := 52) rfl rfl (OpV_fieldB (k := 8) Tryd.underlying29 rfl rfl nz4 rfl) rfl ?_
        refine wpR_gv (t := 52) rfl rfl (OpV_ldB Tryd.underlying4 rfl rfl (hS.bxc 1 rfl 8)) rfl ?_
        refine wpR_gv (t := 52) rfl rfl (OpV_fieldB (k := 8) Tryd.underlying29 rfl rfl nz4 rfl) rfl ?_
        refine wpR_gv (t := 52) rfl rfl (OpV_ldB Tryd.underlying4 rfl rfl (hS.bxc 0 rfl 8)) rfl ?_
        refine wpR_gv (t := 52) rfl rfl (OpV_bin rfl rfl (b_beql _ a0_8 a1_8 Tryd.underlying4 rfl)) rfl ?_
        refine wpR_run 2 rfl ?_
        cases hb_13 : (a0_8 == a1_8)
        case true =>
         have h := if_t h hb_13
         try simp only [hb_13]
         refine wpR_gv (t := 59) rfl rfl (OpV_fieldB (k := 9) Tryd.underlying29 rfl rfl nz27 rfl) rfl ?_
         refine wpR_gv (t := 59) rfl rfl (OpV_ldBs (us := [vB a0_9, vI a0_10]) Tryd.underlying27 rfl sz27 rfl (hS.bxs 1 rfl rfl)) rfl ?_
         refine wpR_gv (t := 59) rfl rfl (OpV_fieldB (k := 9) Tryd.underlying29 rfl rfl nz27 rfl) rfl ?_
         refine wpR_gv (t := 59) rfl rfl (OpV_ldBs (us := [vB a1_9, vI a1_10]) Tryd.underlying27 rfl sz27 rfl (hS.bxs 0 rfl rfl)) rfl ?_
         refine wpR_gv (t := 59) rfl rfl (OpV_bin rfl rfl (agx (b' := (a0_9, a0_10) == (a1_9, a1_10)) (b_ageq Tryd.underlying27 sh27 eg27 (eqf_b rfl Tryd.underlying4 rfl rfl (eqf_i rfl Tryd.underlying2 rfl rfl eqf_nil))) (by simp only [Bool.and_true]; rfl))) rfl ?_
         refine wpR_run 2 rfl ?_
         cases hb_14 : ((a0_9, a0_10) == (a1_9, a1_10))
         case true =>
          have h := if_t h hb_14
          try simp only [hb_14]
          refine wpR_gv (t := 66) rfl rfl (OpV_fieldB (k := 11) Tryd.underlying29 rfl rfl nz27 rfl) rfl ?_
          refine wpR_gv (t := 66) rfl rfl (OpV_ldBs (us := [vB a0_11, vI a0_12]) Tryd.underlying27 rfl sz27 rfl (hS.bxs 1 rfl rfl)) rfl ?_
          refine wpR_gv (t := 66) rfl rfl (OpV_fieldB (k := 11) Tryd.underlying29 rfl rfl nz27 rfl) rfl ?_
          refine wpR_gv (t := 66) rfl rfl (OpV_ldBs (us := [vB a1_11, vI a1_12]) Tryd.underlying27 rfl sz27 rfl (hS.bxs 0 rfl rfl)) rfl ?_
          refine wpR_gv (t := 66) rfl rfl (OpV_bin rfl rfl (agx (b' := (a0_11, a0_12) == (a1_11, a1_12)) (b_ageq Tryd.underlying27 sh27 eg27 (eqf_b rfl Tryd.underlying4 rfl rfl (eqf_i rfl Tryd.underlying2 rfl rfl eqf_nil))) (by simp only [Bool.and_true]; rfl))) rfl ?_
          refine wpR_run 2 rfl ?_
          cases hb_15 : ((a0_11, a0_12) == (a1_11, a1_12))
          case true =>
           have h := if_t h hb_15
           try simp only [hb_15]
           refine wpR_gv (t := 73) rfl rfl (OpV_fieldB (k := 13) Tryd.underlying29 rfl rfl nz27 rfl) rfl ?_
           refine wpR_gv (t := 73) rfl rfl (OpV_ldBs (us := [vB a0_13, vI a0_14]) Tryd.underlying27 rfl sz27 rfl (hS.bxs 1 rfl rfl)) rfl ?_
           refine wpR_gv (t := 73) rfl rfl (OpV_fieldB (k := 13) Tryd.underlying29 rfl rfl nz27 rfl) rfl ?_
           refine wpR_gv (t := 73) rfl rfl (OpV_ldBs (us := [vB a1_13, vI a1_14]) Tryd.underlying27 rfl sz27 rfl (hS.bxs 0 rfl rfl)) rfl ?_
           refine wpR_gv (t := 73) rfl rfl (OpV_bin rfl rfl (agx (b' := (a0_13, a0_14) == (a1_13, a1_14)) (b_ageq Tryd.underlying27 sh27 eg27 (eqf_b rfl Tryd.underlying4 rfl rfl (eqf_i rfl Tryd.underlying2 rfl rfl eqf_nil))) (by simp only [Bool.and_true]; rfl))) rfl ?_
           refine wpR_run 2 rfl ?_
           cases hb_16 : ((a0_13, a0_14) == (a1_13, a1_14))
           case true =>
            have h := if_t h hb_16
            try simp only [hb_16]
            refine wpR_gv (t := 80) rfl rfl (OpV_fieldB (k := 0) Tryd.underlying29 rfl rfl nz24 rfl) rfl ?_
            refine wpR_gv (t := 80) rfl rfl (OpV_ldB Tryd.underlying24 rfl rfl (hS.bxc 1 rfl 0)) rfl ?_
            refine wpR_gv (t := 80) rfl rfl (OpV_len Tryd.underlying24 rfl (ha0_0.now hS.fr)) rfl ?_
            refine wpR_run 3 rfl ?_
            cases hb_17 : ((a0_0.length : Int) == 0)
            case true =>
             have h := if_t h hb_17
             try simp only [hb_17]
             refine wpR_gv (t := 86) rfl rfl (OpV_fieldB (k := 0) Tryd.underlying29 rfl rfl nz24 rfl) rfl ?_
             refine wpR_gv (t := 86) rfl rfl (OpV_ldB Tryd.underlying24 rfl rfl (hS.bxc 0 rfl 0)) rfl ?_
             refine wpR_gv (t := 86) rfl rfl (OpV_len Tryd.underlying24 rfl (ha1_0.now hS.fr)) rfl ?_
             refine wpR_run 3 rfl ?_
             refine wpR_nil (QE_then_n (wpC_ret ?_))
             cases h
             exact QE_ret1 rfl rfl ⟨rfl, hS.pick [] (by decide) rfl⟩
            case false =>
             have h := if_f h hb_17
             try simp only [hb_17]
             refine wpR_run 6 rfl ?_
             refine wpR_nil (QE_then_n (wpC_ret ?_))
             cases h
             exact QE_ret1 rfl rfl ⟨rfl, hS.pick [] (by decide) rfl⟩
           case false =>
            have h := if_f h hb_16
            try simp only [hb_16]
            refine wpR_run 12 rfl ?_
            refine wpR_nil (QE_then_n (wpC_ret ?_))
            cases h
            exact QE_ret1 rfl rfl ⟨rfl, hS.pick [] (by decide) rfl⟩
          case false =>
           have h := if_f h hb_15
           try simp only [hb_15]
           refine wpR_run 19 rfl ?_
           refine wpR_nil (QE_then_n (wpC_ret ?_))
           cases h
           exact QE_ret1 rfl rfl ⟨rfl, hS.pick [] (by decide) rfl⟩
         case false =>
          have h := if_f h hb_14
          try simp only [hb_14]
          refine wpR_run 26 rfl ?_
          refine wpR_nil (QE_then_n (wpC_ret ?_))
          cases h
          exact QE_ret1 rfl rfl ⟨rfl, hS.pick [] (by decide) rfl⟩
        case false =>
         have h := if_f h hb_13
         try simp only [hb_13]
         refine wpR_run 33 rfl ?_
         refine wpR_nil (QE_then_n (wpC_ret ?_))
         cases h
         exact QE_ret1 rfl rfl ⟨rfl, hS.pick [] (by decide) rfl⟩
       case false =>
        have h := if_f h hb_12
        try simp only [hb_12]
        refine wpR_run 40 rfl ?_
        refine wpR_nil (QE_then_n (wpC_ret ?_))
        cases h
        exact QE_ret1 rfl rfl ⟨rfl, hS.pick [] (by decide) rfl⟩
      case false =>
       have h := if_f h hb_11
       try simp only [hb_11]
       refine wpR_run 47 rfl ?_
       refine wpR_nil (QE_then_n (wpC_ret ?_))
       cases h
       exact QE_ret1 rfl rfl ⟨rfl, hS.pick [] (by decide) rfl⟩
     case false =>
      have h := if_f h hb_10
      try simp only [hb_10]
      refine wpR_run 54 rfl ?_
      refine wpR_nil (QE_then_n (wpC_ret ?_))
      cases h
      exact QE_ret1 rfl rfl ⟨rfl, hS.pick [] (by decide) rfl⟩
    case false =>
     have h := if_f h hb_8
     try simp only [hb_8]
     refine wpR_run 61 rfl ?_
     refine wpR_nil (QE_then_n (wpC_ret ?_))
     cases h
     exact QE_ret1 rfl rfl ⟨rfl, hS.pick [] (by decide) rfl⟩
   case false =>
    have h := if_f h hb_7
    try simp only [hb_7]
    refine wpR_run 68 rfl ?_
    refine wpR_nil (QE_then_n (wpC_ret ?_))
    cases h
    exact QE_ret1 rfl rfl ⟨rfl, hS.pick [] (by decide) rfl⟩
  case false =>
   have h := if_f h hb_6
   try simp only [hb_6]
   refine wpR_run 75 rfl ?_
   refine wpR_nil (QE_then_n (wpC_ret ?_))
   cases h
   exact QE_ret1 rfl rfl ⟨rfl, hS.pick [] (by decide) rfl⟩
 case false =>
  have h := if_f h hb_5
  try simp only [hb_5]
  refine wpR_run 82 rfl ?_
  refine wpR_nil (QE_then_n (wpC_ret ?_))
  cases h
  exact QE_ret1 rfl rfl ⟨rfl, hS.pick [] (by decide) rfl⟩
theorem c_law31_same (w0 : World) (a0 : List UInt8) (a1 : List UInt8) (va0 : Value) (va1 : Value) (ha0 : RP [] w0 e8 va0 a0) (ha1 : RP [] w0 e8 va1 a1) (r : Bool)
  (h : F.law31_same a0 a1 = some r) : Calls Tryd.prog 22 #[va0, va1] w0 (Ret fun v w => v = vB r ∧ St [] w0 w []) := by
 refine calls_at 26 Tryd.func22 rfl rfl rfl ?_
 have hS := St.start w0
 refine wpC_le [(0, va0), (1, va1)] ⟨rfl, rfl, trivial⟩ ?_
 unfold F.law31_same at h
 refine wpC_seq (wpC_region (wpR_run 1 rfl ?_))
 refine wpR_nil (QE_then_n (wpC_seq (wpC_seq (wpC_region (wpR_run 1 rfl ?_)))))
 refine wpR_v (OpV_len Tryd.underlying22 rfl (ha0.now hS.fr)) rfl ?_
 refine wpR_run 1 rfl ?_
 refine wpR_v (OpV_len Tryd.underlying22 rfl (ha1.now hS.fr)) rfl ?_
 refine wpR_run 1 rfl ?_
 refine wpR_nil (QE_then_n ?_)
 refine wpC_cond rfl (fun hb_10 => ?_) (fun hb_10 => ?_)
 ·have h := if_t h hb_10
  refine wpC_seq (wpC_region (wpR_run 1 rfl ?_))
  refine wpR_nil (QE_then_n (wpC_ret (QE_then_r ?_)))
  cases h
  exact QE_ret1 rfl rfl ⟨rfl, hS⟩
 have h := if_f h hb_10
 refine wpC_skip (QE_then_n (wpC_seq (wpC_seq (wpC_region (wpR_run 1 rfl ?_)))))
 refine wpR_nil (QE_then_n (wpC_block ?_))
 refine wpC_le [(0, va0), (1, va1), (5, vI 0)] ⟨rfl, rfl, rfl, trivial⟩ ?_
 refine loop_ind (F.law31_same_L1 a0 a1) (fun (s : Int) L w => L = [(0, va0), (1, va1), (5, vI s)] ∧ St [] w0 w []) ?_ 0 ⟨rfl, hS⟩ h
 rintro k_9 x_1 L w q_4 hI ih_3 h hk_2
 try dsimp only at hI
 obtain ⟨rfl, hS⟩ := hI
 unfold F.law31_same_L1 at h
 refine wpC_seq (wpC_seq (wpC_region (wpR_run 2 rfl ?_)))
 refine wpR_v (OpV_len Tryd.underlying22 rfl (ha0.now hS.fr)) rfl ?_
 refine wpR_run 1 rfl ?_
 refine wpR_nil (QE_then_n ?_)
 refine wpC_cond rfl (fun hb_8 => ?_) (fun hb_8 => ?_)
 ·have h := if_t h hb_8
  refine wpC_skip (QE_then_n (wpC_seq (wpC_block ?_)))
  refine wpC_seq ?_
  refine wpC_regionT (fun w' => St [] w0 w' []) (fun _ => true) hmix (fun _ _ _ hf => hf.2) (fun _ _ hf => hf) (by kernel_rfl) ?_
  have hS := hS.drew
  show lxE _ _ _ _ _ _ _ [0, 1, 2, 3, 4, 5, 6, 7, 8] _ _
  refine lxE_v hS rfl rfl (fun w hF => OpV_move rfl) rfl ?_
  refine lxE_v hS rfl rfl (fun w hF => OpV_move rfl) rfl ?_
  obtain ⟨x_5, hx_5, h⟩ := obind_some h
  refine lxE_v hS rfl rfl (fun w hF => G_ix Tryd.underlying22 ti5 rfl rfl (ha0.now hF.fr) hx_5) rfl ?_
  refine lxE_v hS rfl rfl (fun w hF => G_load Tryd.underlying5 rfl rfl (ha0.now hF.fr) hx_5 rfl) rfl ?_
  refine lxE_v hS rfl rfl (fun w hF => OpV_move rfl) rfl ?_
  refine lxE_v hS rfl rfl (fun w hF => OpV_move rfl) rfl ?_
  obtain ⟨x_6, hx_6, h⟩ := obind_some h
  refine lxE_v hS rfl rfl (fun w hF => G_ix Tryd.underlying22 ti5 rfl rfl (ha1.now hF.fr) hx_6) rfl ?_
  refine lxE_v hS rfl rfl (fun w hF => G_load Tryd.underlying5 rfl rfl (ha1.now hF.fr) hx_6 rfl) rfl ?_
  refine lxE_v hS rfl rfl (fun w hF => OpV_bin rfl rfl (b_neq8 _ x_5 x_6)) rfl ?_
  refine lxE_nil hS ?_
  refine QE_then_n ?_
  refine wpC_cond rfl (fun hb_7 => ?_) (fun hb_7 => ?_)
  ·have h := if_t h hb_7
   refine wpC_seq (wpC_region (wpR_run 1 rfl ?_))
   refine wpR_nil (QE_then_n (wpC_ret (QE_blk_r ?_)))
   refine QE_then_r (QE_then_r ?_)
   have h := oinr_some h hk_2
   refine QE_blk_r ?_
   refine QE_then_r ?_
   cases h
   exact QE_ret1 rfl rfl ⟨rfl, hS⟩
  have h := if_f h hb_7
  refine wpC_skip (QE_blk_n ?_)
  refine QE_then_n (wpC_region (wpR_run 3 rfl ?_))
  refine wpR_nil ?_
  exact QE_rnd (wpN_le _ (by exact ⟨rfl, rfl, rfl, trivial⟩) (ih_3 (wI (x_1 + 1)) _ _ ⟨rfl, hS⟩ (oinl_some h hk_2)))
 have h := if_f h hb_8
 refine wpC_exit ?_
 refine QE_then_x (QE_then_x ?_)
 have h := oinr_some h hk_2
 refine QE_blk_x ?_
 refine QE_then_n (wpC_seq (wpC_region (wpR_run 1 rfl ?_)))
 refine wpR_nil (QE_then_n (wpC_ret ?_))
 cases h
 exact QE_ret1 rfl rfl ⟨rfl, hS⟩
theorem c_law31_spared (w0 : World) (a0 : List UInt8) (k0 : Nat) (a1 : List UInt8) (va0 : Value) (va1 : Value) (ha0 : RP [] w0 e8 va0 a0) (hk0 : k0 ≤ a0.length) (ha1 : RP [] w0 e8 va1 a1) (r : Bool)
  (h : F.law31_spared a0 k0 a1 = some r) : Calls Tryd.prog 12 #[slV va0 e8.sz 0 k0, va1] w0 (Ret fun v w => v = vB r ∧ St [] w0 w []) := by
 refine calls_at 28 Tryd.func12 rfl rfl rfl ?_
 have hS := St.start w0
 refine wpC_le [(0, slV va0 e8.sz 0 k0), (1, va1)] ⟨rfl, rfl, trivial⟩ ?_
 unfold F.law31_spared at h
 refine wpC_seq (wpC_region (wpR_run 1 rfl ?_))
 refine wpR_nil (QE_then_n (wpC_seq (wpC_region (wpR_run 2 rfl ?_))))
 refine wpR_v (OpV_len Tryd.underlying22 rfl (ha1.now hS.fr)) rfl ?_
 refine wpR_run 1 rfl ?_
 obtain ⟨hg_1, h⟩ := grd_some h
 refine wpR_v (G_slh_room Tryd.underlying22 ti5 rfl rfl (ha0.now hS.fr) (tkO_of hg_1)) rfl ?_
 refine wpR_run 1 rfl ?_
 refine wpR_nil (QE_then_n (wpC_seq (wpC_seq (wpC_region (wpR_run 1 rfl ?_)))))
 refine wpR_v (OpV_len Tryd.underlying22 rfl (ha1.now hS.fr)) rfl ?_
 refine wpR_run 1 rfl ?_
 refine wpR_nil (QE_then_n (wpC_block ?_))
 refine wpC_le [(0, slV va0 e8.sz 0 k0), (1, va1), (5, slV va0 e8.sz 0 ((wI ((a1.length : Int) + 9) : Int).toNat)), (6, vI (a1.length : Int))] ⟨rfl, rfl, rfl, rfl, trivial⟩ ?_
 refine loop_ind (F.law31_spared_L1 a0 k0 a1) (fun (s : Int) L w => L = [(0, slV va0 e8.sz 0 k0), (1, va1), (5, slV va0 e8.sz 0 ((wI ((a1.length : Int) + 9) : Int).toNat)), (6, vI s)] ∧ St [] w0 w []) ?_ (a1.length : Int) ⟨rfl, hS⟩ h
 rintro k_10 x_2 L w q_5 hI ih_4 h hk_3
 try dsimp only at hI
 obtain ⟨rfl, hS⟩ := hI
 unfold F.law31_spared_L1 at h
 refine wpC_seq (wpC_seq (wpC_region (wpR_run 2 rfl ?_)))
 refine wpR_v (OpV_len Tryd.underlying22 rfl ((ha0.now hS.fr).tk hg_1.2)) rfl ?_
 refine wpR_run 1 rfl ?_
 refine wpR_nil (QE_then_n ?_)
 refine wpC_cond rfl (fun hb_9 => ?_) (fun hb_9 => ?_)
 ·have h := if_t h hb_9
  refine wpC_skip (QE_then_n (wpC_seq (wpC_block ?_)))
  refine wpC_seq (wpC_region (wpR_run 2 rfl ?_))
  obtain ⟨x_6, hx_6, h⟩ := obind_some h
  refine wpR_v (G_ix_room Tryd.underlying22 ti5 rfl rfl (ha0.now hS.fr) hg_1.2 hx_6) rfl ?_
  refine wpR_v (G_load Tryd.underlying5 rfl rfl (ha0.now hS.fr) (getO_take hx_6) rfl) rfl ?_
  refine wpR_v (OpV_bin rfl rfl (b_neq8 _ x_6 165)) rfl ?_
  refine wpR_nil (QE_then_n ?_)
  refine wpC_cond rfl (fun hb_7 => ?_) (fun hb_7 => ?_)
  ·have h := if_t h hb_7
   refine wpC_seq (wpC_region (wpR_run 1 rfl ?_))
   refine wpR_nil (QE_then_n (wpC_ret (QE_blk_r ?_)))
   refine QE_then_r (QE_then_r ?_)
   have h := oinr_some h hk_3
   refine QE_blk_r ?_
   refine QE_then_r ?_
   cases h
   exact QE_ret1 rfl rfl ⟨rfl, hS⟩
  have h := if_f h hb_7
  refine wpC_skip (QE_blk_n ?_)
  refine QE_then_n (wpC_region (wpR_run 3 rfl ?_))
  refine wpR_nil ?_
  exact QE_rnd (wpN_le _ (by exact ⟨rfl, rfl, rfl, rfl, trivial⟩) (ih_4 (wI (x_2 + 1)) _ _ ⟨rfl, hS⟩ (oinl_some h hk_3)))
 have h := if_f h hb_9
 refine wpC_exit ?_
 refine QE_then_x (QE_then_x ?_)
 have h := oinr_some h hk_3
 refine QE_blk_x ?_
 refine QE_then_n (wpC_seq (wpC_region (wpR_run 2 rfl ?_)))
 obtain ⟨x_8, hx_8, h⟩ := obind_some h
 refine wpR_call (by kernel_rfl) rfl (c_law31_same _ (a0.take k0) a1 (slV va0 e8.sz 0 k0) va1  ((ha0.now hS.fr).tk hk0).rp (ha1.now hS.fr).rp _ hx_8) rfl ?_
 rintro _ w ⟨rfl, hS1⟩
 have hS := hS.call hS1
 simp only [List.cons_append, List.nil_append] at hS
 refine wpR_run 1 rfl ?_
 refine wpR_nil (QE_then_n (wpC_ret ?_))
 cases h
 exact QE_ret1 rfl rfl ⟨rfl, hS⟩
end Go.Proofs
