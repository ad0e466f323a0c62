/- Walks: each Go function of package ref30 computes its plain function. Written by a program of ours. -/
import Derived.Test.YtcdneplfgppapaaDoorUW0
import Derived.Test.YtcdneplfgppapaaDoorGkFref30
import Derived.Test.YtcdneplfgppapaaDoorUWref3
set_option linter.unusedVariables false
set_option linter.unusedSimpArgs false
set_option linter.unusedVariables false
set_option maxRecDepth 4000
namespace Go.Proofs
open Go Go.RowKit Go.Gk

theorem c_ref30_Beyond (w0 : World) (a0 : List (Int × UInt64 × (List UInt8) × Int)) (va0 : Value) (ha0 : RP [] w0 (eP eI (eP e64 (eP eS eI))) va0 a0) (r : Bool)
    (h : F.ref30_Beyond a0 = some r) : Calls Tryd.prog 14 #[va0] w0 (Ret fun v w => v = vB r ∧ St [] w0 w []) := by
  refine calls_at 54 Tryd.func14 rfl rfl rfl ?_
  have hS := St.start w0
  refine wpC_le [(0, va0)] ⟨rfl, trivial⟩ ?_
  unfold F.ref30_Beyond at h
  refine wpC_seq ?_
  refine wpC_region ?_
  refine wpR_v (OpV_assign rfl) rfl ?_
  refine wpR_nil ?_
  refine QE_then_n ?_
  refine wpC_seq ?_
  refine wpC_region ?_
  refine wpR_v (OpV_assign rfl) rfl ?_
  refine wpR_nil ?_
  refine QE_then_n ?_
  refine wpC_seq ?_
  refine wpC_seq ?_
  refine wpC_region ?_
  refine wpR_v (OpV_assign rfl) rfl ?_
  refine wpR_nil ?_
  refine QE_then_n ?_
  refine wpC_block ?_
  refine wpC_le [(0, va0), (3, .slice none 0 0), (4, vI 0)] ⟨rfl, rfl, rfl, trivial⟩ ?_
  refine loop_ind (F.ref30_Beyond_L1 a0) (fun (s : List Int × Int) L w => ∃ (v_2 : Value), L = [(0, va0), (3, v_2), (4, vI s.2)] ∧ St [] w0 w [own eI v_2 s.1]) ?_ ([], 0) ⟨.slice none 0 0, rfl, (hS.nil eI)⟩ h
  rintro k_35 ⟨x_1, x_4⟩ L w q_7 hI ih_6 h hk_5
  try dsimp only at hI
  obtain ⟨v_2, rfl, hS⟩ := hI
  unfold F.ref30_Beyond_L1 at h
  refine wpC_seq ?_
  refine wpC_seq ?_
  refine wpC_region ?_
  refine wpR_v (OpV_move rfl) rfl ?_
  refine wpR_v (OpV_move rfl) rfl ?_
  refine wpR_v (OpV_len Tryd.underlying22 rfl (ha0.now hS.fr)) rfl ?_
  refine wpR_v (OpV_bin rfl rfl (b_ilss _ x_4 (a0.length : Int))) rfl ?_
  refine wpR_nil ?_
  refine QE_then_n ?_
  refine wpC_cond rfl (fun hb_34 => ?_) (fun hb_34 => ?_)
  · have h := if_t h hb_34
    refine wpC_skip ?_
    refine QE_then_n ?_
    refine wpC_seq ?_
    refine wpC_block ?_
    refine wpC_seq ?_
    refine wpC_block ?_
    refine wpC_le [(0, va0), (3, v_2), (4, vI x_4)] ⟨rfl, rfl, rfl, trivial⟩ ?_
    refine loop_ind (F.ref30_Beyond_L2 a0 x_4) (fun (s : List Int) L w => ∃ (v_9 : Value), L = [(0, va0), (3, v_9), (4, vI x_4)] ∧ St [] w0 w [own eI v_9 s]) ?_ x_1 ⟨v_2, rfl, hS⟩ h
    rintro k_33 x_8 L w q_13 hI ih_12 h hk_11
    try dsimp only at hI
    obtain ⟨v_9, rfl, hS⟩ := hI
    unfold F.ref30_Beyond_L2 at h
    refine wpC_seq ?_
    refine seq_join (r := q_13) (fun (g : Bool) L w => L = [(0, va0), (3, v_9), (4, vI x_4), (22, vB g)] ∧ St [] w0 w [own eI v_9 x_8]) (F.ref30_Beyond_K1 x_8 a0 x_4) ?_ ?_
    · rintro x_16 L w hJ h
      try dsimp only at hJ
      obtain ⟨rfl, hS⟩ := hJ
      unfold F.ref30_Beyond_K1 at h
      refine wpC_cond rfl (fun hb_32 => ?_) (fun hb_32 => ?_)
      · have h := if_t h hb_32
        refine wpC_skip ?_
        refine QE_then_n ?_
        refine wpC_block ?_
        refine wpC_region ?_
        refine wpR_v (OpV_move rfl) rfl ?_
        refine wpR_v (OpV_move rfl) rfl ?_
        refine wpR_v (OpV_len Tryd.underlying54 rfl (hS.ro 0 rfl)) rfl ?_
        refine wpR_v (OpV_bin rfl rfl (b_isub _ (x_8.length : Int) 1)) rfl ?_
        obtain ⟨hg_18, h⟩ := grd_some h
        refine wpR_v (G_slh Tryd.underlying54 ti3 rfl rfl (hS.ro 0 rfl) (tkO_of hg_18)) rfl ?_
        refine wpR_v (OpV_assign rfl) rfl ?_
        refine wpR_nil ?_
        refine QE_blk_n ?_
        exact QE_rnd (wpN_le _ (by exact ⟨rfl, rfl, rfl, trivial⟩) (ih_12 (x_8.take ((wI ((x_8.length : Int) - 1) : Int).toNat)) _ _ ⟨slV v_9 eI.sz 0 ((wI ((x_8.length : Int) - 1) : Int).toNat), rfl, (hS.trunc (i := 0) rfl hg_18.2)⟩ (oinl_some h hk_11)))
      · have h := if_f h hb_32
        refine wpC_exit ?_
        refine QE_then_x ?_
        refine QE_then_x ?_
        have h := oinr_some h hk_11
        refine QE_blk_x ?_
        refine QE_then_n ?_
        refine seq_join (r := q_7) (fun (g : List Int) L w => L = [(0, va0), (3, v_9), (4, vI x_4)] ∧ St [] w0 w [own eI v_9 g]) (F.ref30_Beyond_K2 a0 x_4) ?_ ?_
        · rintro x_23 L w hJ h
          try dsimp only at hJ
          obtain ⟨rfl, hS⟩ := hJ
          unfold F.ref30_Beyond_K2 at h
          refine wpC_seq ?_
          refine wpC_region ?_
          refine wpR_v (OpV_move rfl) rfl ?_
          refine wpR_v (OpV_move rfl) rfl ?_
          refine wpR_v (OpV_move rfl) rfl ?_
          obtain ⟨x_25, hx_25, h⟩ := obind_some h
          refine wpR_v (G_ix Tryd.underlying22 ti33 rfl rfl (ha0.now hS.fr) hx_25) rfl ?_
          refine wpR_v (OpV_fieldE (k := 3) Tryd.underlying33 rfl rfl nz3 rfl) rfl ?_
          refine wpR_v (G_loadF Tryd.underlying3 rfl rfl (ha0.now hS.fr) hx_25 rfl rfl) rfl ?_
          refine wpR_x (OpX_lit (e := eI) (l := ([x_25.2.2.2] : List Int)) (vs := [vI x_25.2.2.2]) Tryd.underlying54 ti3 rfl rfl rfl rfl (by decide) (by decide) hS) rfl ?_
          rintro v_26 w hS
          obtain ⟨x_28, hx_28, h⟩ := obind_some h
          refine wpR_x (G_append Tryd.underlying54 ti3 rfl rfl rfl hS (i := 1) rfl (hS.ro 0 rfl) hx_28) rfl ?_
          rintro v_29 w hS
          refine wpR_v (OpV_assign rfl) rfl ?_
          refine wpR_nil ?_
          refine QE_then_n ?_
          refine wpC_seq ?_
          refine wpC_region ?_
          refine wpR_v (OpV_move rfl) rfl ?_
          refine wpR_v (OpV_len Tryd.underlying54 rfl (hS.ro 1 rfl)) rfl ?_
          refine wpR_v (OpV_bin rfl rfl (b_igtr _ (x_28.length : Int) 65536)) rfl ?_
          refine wpR_nil ?_
          refine QE_then_n ?_
          refine wpC_cond rfl (fun hb_31 => ?_) (fun hb_31 => ?_)
          · have h := if_t h hb_31
            refine wpC_seq ?_
            refine wpC_region ?_
            refine wpR_v (OpV_assign rfl) rfl ?_
            refine wpR_nil ?_
            refine QE_then_n ?_
            refine wpC_ret ?_
            refine QE_blk_r ?_
            refine QE_then_r ?_
            refine QE_then_r ?_
            have h := oinr_some h hk_5
            refine QE_blk_r ?_
            refine QE_then_r ?_
            cases h
            exact QE_ret1 rfl rfl ⟨rfl, hS.pick [] (by decide) rfl⟩
          · have h := if_f h hb_31
            refine wpC_skip ?_
            refine QE_blk_n ?_
            refine QE_then_n ?_
            refine wpC_region ?_
            refine wpR_v (OpV_move rfl) rfl ?_
            refine wpR_v (OpV_bin rfl rfl (b_iadd _ x_4 1)) rfl ?_
            refine wpR_v (OpV_assign rfl) rfl ?_
            refine wpR_nil ?_
            exact QE_rnd (wpN_le _ (by exact ⟨rfl, rfl, rfl, trivial⟩) (ih_6 (x_28, wI (x_4 + 1)) _ _ ⟨v_29, rfl, (hS.pick [1] (by decide) rfl)⟩ (oinl_some h hk_5)))
        · intro hK_24
          refine wpC_seq ?_
          refine wpC_region ?_
          refine wpR_v (OpV_move rfl) rfl ?_
          refine wpR_v (OpV_len Tryd.underlying54 rfl (hS.ro 0 rfl)) rfl ?_
          refine wpR_v (OpV_bin rfl rfl (b_igtr _ (x_8.length : Int) 0)) rfl ?_
          refine wpR_nil ?_
          refine QE_then_n ?_
          refine wpC_cond rfl (fun hb_22 => ?_) (fun hb_22 => ?_)
          · have h := if_t h hb_22
            refine wpC_region ?_
            refine wpR_v (OpV_move rfl) rfl ?_
            refine wpR_v (OpV_move rfl) rfl ?_
            refine wpR_v (OpV_len Tryd.underlying54 rfl (hS.ro 0 rfl)) rfl ?_
            refine wpR_v (OpV_bin rfl rfl (b_isub _ (x_8.length : Int) 1)) rfl ?_
            refine wpR_v (OpV_move rfl) rfl ?_
            refine wpR_v (OpV_move rfl) rfl ?_
            refine wpR_v (OpV_len Tryd.underlying54 rfl (hS.ro 0 rfl)) rfl ?_
            refine wpR_v (OpV_bin rfl rfl (b_isub _ (x_8.length : Int) 1)) rfl ?_
            obtain ⟨x_19, hx_19, h⟩ := obind_some h
            refine wpR_v (G_ix Tryd.underlying54 ti3 rfl rfl (hS.ro 0 rfl) hx_19) rfl ?_
            refine wpR_v (G_load Tryd.underlying3 rfl rfl (hS.ro 0 rfl) hx_19 rfl) rfl ?_
            refine wpR_v (OpV_bin rfl rfl (b_isub _ x_19 1)) rfl ?_
            obtain ⟨x_20, hx_20, h⟩ := obind_some h
            refine wpR_v (G_ix Tryd.underlying54 ti3 rfl rfl (hS.ro 0 rfl) hx_20) rfl ?_
            refine wpR_y (G_storeE (t := (wI (x_19 - 1))) ti3 rfl rfl hS (i := 0) rfl hx_20 rfl) ?_
            intro w hS
            obtain ⟨x_21, hx_21, h⟩ := olet_some h
            rw [hx_21] at hS
            refine wpR_nil ?_
            refine QE_then_n ?_
            exact wpC_le _ (by exact ⟨rfl, rfl, rfl, trivial⟩) (hK_24 x_21 _ _ ⟨rfl, hS⟩ h)
          · have h := if_f h hb_22
            refine wpC_skip ?_
            refine QE_then_n ?_
            exact wpC_le _ (by exact ⟨rfl, rfl, rfl, trivial⟩) (hK_24 x_8 _ _ ⟨rfl, hS⟩ h)
    · intro hK_17
      refine wpC_region ?_
      refine wpR_v (OpV_move rfl) rfl ?_
      refine wpR_v (OpV_len Tryd.underlying54 rfl (hS.ro 0 rfl)) rfl ?_
      refine wpR_v (OpV_bin rfl rfl (b_igtr _ (x_8.length : Int) 0)) rfl ?_
      refine wpR_v (OpV_move rfl) rfl ?_
      cases hb_14 : (decide ((0 : Int) < (x_8.length : Int)))
      case true =>
        have h := if_t h hb_14
        try simp only [hb_14]
        refine wpR_gv (t := 14) rfl rfl (OpV_move rfl) rfl ?_
        refine wpR_gv (t := 14) rfl rfl (OpV_move rfl) rfl ?_
        refine wpR_gv (t := 14) rfl rfl (OpV_len Tryd.underlying54 rfl (hS.ro 0 rfl)) rfl ?_
        refine wpR_gv (t := 14) rfl rfl (OpV_bin rfl rfl (b_isub _ (x_8.length : Int) 1)) rfl ?_
        obtain ⟨x_15, hx_15, h⟩ := obind_some h
        refine wpR_gv (t := 14) rfl rfl (G_ix Tryd.underlying54 ti3 rfl rfl (hS.ro 0 rfl) hx_15) rfl ?_
        refine wpR_gv (t := 14) rfl rfl (G_load Tryd.underlying3 rfl rfl (hS.ro 0 rfl) hx_15 rfl) rfl ?_
        refine wpR_gv (t := 14) rfl rfl (OpV_bin rfl rfl (b_ileq _ x_15 0)) rfl ?_
        refine wpR_v (OpV_pickT rfl rfl) rfl ?_
        refine wpR_nil ?_
        refine QE_then_n ?_
        exact wpC_le _ (by exact ⟨rfl, rfl, rfl, rfl, trivial⟩) (hK_17 (decide (x_15 ≤ 0)) _ _ ⟨rfl, hS⟩ h)
      case false =>
        have h := if_f h hb_14
        try simp only [hb_14]
        refine wpR_gskip (b := false) (t := 14) rfl rfl rfl rfl ?_
        refine wpR_gskip (b := false) (t := 14) rfl rfl rfl rfl ?_
        refine wpR_gskip (b := false) (t := 14) rfl rfl rfl rfl ?_
        refine wpR_gskip (b := false) (t := 14) rfl rfl rfl rfl ?_
        refine wpR_gskip (b := false) (t := 14) rfl rfl rfl rfl ?_
        refine wpR_gskip (b := false) (t := 14) rfl rfl rfl rfl ?_
        refine wpR_gskip (b := false) (t := 14) rfl rfl rfl rfl ?_
        refine wpR_v (OpV_pickF rfl rfl) rfl ?_
        refine wpR_nil ?_
        refine QE_then_n ?_
        exact wpC_le _ (by exact ⟨rfl, rfl, rfl, rfl, trivial⟩) (hK_17 false _ _ ⟨rfl, hS⟩ h)
  · have h := if_f h hb_34
    refine wpC_exit ?_
    refine QE_then_x ?_
    refine QE_then_x ?_
    have h := oinr_some h hk_5
    refine QE_blk_x ?_
    refine QE_then_n ?_
    refine wpC_seq ?_
    refine wpC_region ?_
    refine wpR_v (OpV_assign rfl) rfl ?_
    refine wpR_nil ?_
    refine QE_then_n ?_
    refine wpC_ret ?_
    cases h
    exact QE_ret1 rfl rfl ⟨rfl, hS.pick [] (by decide) rfl⟩

theorem c_ref30_none (w0 : World)    (r : List UInt8 × Int)
    (h : F.ref30_none  = some r) : Calls Tryd.prog 50 #[] w0 (Ret fun v w => v = .agg #[vS r.1, vI r.2] ∧ St [] w0 w []) := by
  refine calls_at 2 Tryd.func50 rfl rfl rfl ?_
  have hS := St.start w0
  refine wpC_le [] trivial ?_
  unfold F.ref30_none at h
  refine wpC_seq ?_
  refine wpC_region ?_
  refine wpR_x (OpX_alloc (cs := [vS [], vI 0]) tz58 rfl hS) rfl ?_
  rintro _ w ⟨b_1, rfl, hS⟩
  refine wpR_nil ?_
  refine QE_then_n ?_
  refine wpC_seq ?_
  refine wpC_region ?_
  refine wpR_v (OpV_build (vs := [(1, vI (-1), [vI (-1)])]) (cells := [vS [], vI (-1)]) rfl lay58 ⟨rfl, trivial⟩ rfl) rfl ?_
  refine wpR_y (OpY_stB (i := 0) (us := [vS [], vI (-1)]) rfl sz58 rfl rfl rfl ⟨rfl, rfl, trivial⟩ rfl hS) ?_
  intro w hS
  replace hS : St _ w0 w [OE.bx b_1 [vS [], vI (-1)]] := hS
  refine wpR_nil ?_
  refine QE_then_n ?_
  refine wpC_ret ?_
  cases h
  exact QE_rv1 rfl ⟨_, rfl, run_ldAgg (us := [vS [], vI (-1)]) Tryd.underlying58 rfl sz58 (hS.bxs 0 rfl rfl)⟩ ⟨rfl, hS.pick [] (by decide) rfl⟩

theorem c_ref30_wide (w0 : World) (a0 : UInt64)   (r : Int)
    (h : F.ref30_wide a0 = some r) : Calls Tryd.prog 61 #[v64 a0] w0 (Ret fun v w => v = vI r ∧ St [] w0 w []) := by
  refine calls_at 15 Tryd.func61 rfl rfl rfl ?_
  have hS := St.start w0
  refine wpC_le [(0, v64 a0)] ⟨rfl, trivial⟩ ?_
  unfold F.ref30_wide at h
  refine wpC_seq ?_
  refine wpC_region ?_
  refine wpR_v (OpV_assign rfl) rfl ?_
  refine wpR_nil ?_
  refine QE_then_n ?_
  refine wpC_seq ?_
  refine wpC_block ?_
  refine wpC_seq ?_
  refine wpC_region ?_
  refine wpR_v (OpV_move rfl) rfl ?_
  refine wpR_v (OpV_bin rfl rfl (b_lss64 _ a0 24)) rfl ?_
  refine wpR_v (OpV_assign rfl) rfl ?_
  refine wpR_nil ?_
  refine QE_then_n ?_
  refine wpC_cond rfl (fun hb_4 => ?_) (fun hb_4 => ?_)
  · have h := if_t h hb_4
    refine wpC_seq ?_
    refine wpC_region ?_
    refine wpR_v (OpV_assign rfl) rfl ?_
    refine wpR_nil ?_
    refine QE_then_n ?_
    refine wpC_ret ?_
    refine QE_blk_r ?_
    refine QE_then_r ?_
    cases h
    exact QE_ret1 rfl rfl ⟨rfl, hS⟩
  · have h := if_f h hb_4
    refine wpC_seq ?_
    refine wpC_region ?_
    refine wpR_v (OpV_move rfl) rfl ?_
    refine wpR_v (OpV_bin rfl rfl (b_lss64 _ a0 256)) rfl ?_
    refine wpR_v (OpV_assign rfl) rfl ?_
    refine wpR_nil ?_
    refine QE_then_n ?_
    refine wpC_cond rfl (fun hb_3 => ?_) (fun hb_3 => ?_)
    · have h := if_t h hb_3
      refine wpC_seq ?_
      refine wpC_region ?_
      refine wpR_v (OpV_assign rfl) rfl ?_
      refine wpR_nil ?_
      refine QE_then_n ?_
      refine wpC_ret ?_
      refine QE_blk_r ?_
      refine QE_then_r ?_
      cases h
      exact QE_ret1 rfl rfl ⟨rfl, hS⟩
    · have h := if_f h hb_3
      refine wpC_seq ?_
      refine wpC_region ?_
      refine wpR_v (OpV_move rfl) rfl ?_
      refine wpR_v (OpV_bin rfl rfl (b_lss64 _ a0 65536)) rfl ?_
      refine wpR_v (OpV_assign rfl) rfl ?_
      refine wpR_nil ?_
      refine QE_then_n ?_
      refine wpC_cond rfl (fun hb_2 => ?_) (fun hb_2 => ?_)
      · have h := if_t h hb_2
        refine wpC_seq ?_
        refine wpC_region ?_
        refine wpR_v (OpV_assign rfl) rfl ?_
        refine wpR_nil ?_
        refine QE_then_n ?_
        refine wpC_ret ?_
        refine QE_blk_r ?_
        refine QE_then_r ?_
        cases h
        exact QE_ret1 rfl rfl ⟨rfl, hS⟩
      · have h := if_f h hb_2
        refine wpC_seq ?_
        refine wpC_region ?_
        refine wpR_v (OpV_move rfl) rfl ?_
        refine wpR_v (OpV_bin rfl rfl (b_lss64 _ a0 4294967296)) rfl ?_
        refine wpR_v (OpV_assign rfl) rfl ?_
        refine wpR_nil ?_
        refine QE_then_n ?_
        refine wpC_cond rfl (fun hb_1 => ?_) (fun hb_1 => ?_)
        · have h := if_t h hb_1
          refine wpC_seq ?_
          refine wpC_region ?_
          refine wpR_v (OpV_assign rfl) rfl ?_
          refine wpR_nil ?_
          refine QE_then_n ?_
          refine wpC_ret ?_
          refine QE_blk_r ?_
          refine QE_then_r ?_
          cases h
          exact QE_ret1 rfl rfl ⟨rfl, hS⟩
        · have h := if_f h hb_1
          refine wpC_skip ?_
          refine QE_blk_n ?_
          refine QE_then_n ?_
          refine wpC_seq ?_
          refine wpC_region ?_
          refine wpR_v (OpV_assign rfl) rfl ?_
          refine wpR_nil ?_
          refine QE_then_n ?_
          refine wpC_ret ?_
          cases h
          exact QE_ret1 rfl rfl ⟨rfl, hS⟩

theorem c_ref30_Head (w0 : World) (a0 : Int) (a1 : UInt64)   (r : List UInt8)
    (h : F.ref30_Head a0 a1 = some r) : Calls Tryd.prog 51 #[vI a0, v64 a1] w0 (Ret fun v w => v = vS r ∧ St [] w0 w []) := by
  refine calls_at 53 Tryd.func51 rfl rfl rfl ?_
  have hS := St.start w0
  refine wpC_le [(0, vI a0), (1, v64 a1)] ⟨rfl, rfl, trivial⟩ ?_
  unfold F.ref30_Head at h
  refine wpC_seq ?_
  refine wpC_region ?_
  refine wpR_v (OpV_assign rfl) rfl ?_
  refine wpR_nil ?_
  refine QE_then_n ?_
  refine wpC_seq ?_
  refine wpC_region ?_
  refine wpR_v (OpV_move rfl) rfl ?_
  obtain ⟨x_1, hx_1, h⟩ := obind_some h
  refine wpR_call (by kernel_rfl) rfl (c_ref30_wide _ a1    _ hx_1) rfl ?_
  rintro _ w ⟨rfl, hS1⟩
  have hS := hS.call hS1
  simp only [List.cons_append, List.nil_append] at hS
  refine wpR_v (OpV_assign rfl) rfl ?_
  refine wpR_nil ?_
  refine QE_then_n ?_
  refine wpC_seq ?_
  refine wpC_seq ?_
  refine wpC_region ?_
  refine wpR_v (OpV_move rfl) rfl ?_
  refine wpR_v (OpV_bin rfl rfl (b_ieql _ x_1 0)) rfl ?_
  refine wpR_nil ?_
  refine QE_then_n ?_
  refine wpC_cond rfl (fun hb_27 => ?_) (fun hb_27 => ?_)
  · have h := if_t h hb_27
    refine wpC_seq ?_
    refine wpC_region ?_
    refine wpR_v (OpV_move rfl) rfl ?_
    refine wpR_v (OpV_bin rfl rfl (b_imul _ 32 a0)) rfl ?_
    refine wpR_v (OpV_conv rfl (cv_i_8 Tryd.underlying3 Tryd.underlying5 (wI (32 * a0)))) rfl ?_
    refine wpR_v (OpV_move rfl) rfl ?_
    refine wpR_v (OpV_conv rfl (cv_64_8 Tryd.underlying31 Tryd.underlying5 a1)) rfl ?_
    refine wpR_v (OpV_bin rfl rfl (b_add8 _ (UInt8.ofInt (wI (32 * a0))) a1.toUInt8)) rfl ?_
    refine wpR_x (OpX_lit (e := e8) (l := [(UInt8.ofInt (wI (32 * a0))) + a1.toUInt8]) (vs := [v8 ((UInt8.ofInt (wI (32 * a0))) + a1.toUInt8)]) Tryd.underlying25 ti5 rfl rfl rfl rfl (by decide) (by decide) hS) rfl ?_
    rintro v_2 w hS
    refine wpR_v (OpV_str Tryd.underlying25 Tryd.underlying5 Tryd.underlying9 rfl (hS.ro 0 rfl)) rfl ?_
    refine wpR_v (OpV_assign rfl) rfl ?_
    refine wpR_nil ?_
    refine QE_then_n ?_
    refine wpC_ret ?_
    refine QE_then_r ?_
    cases h
    exact QE_ret1 rfl rfl ⟨rfl, hS.pick [] (by decide) rfl⟩
  · have h := if_f h hb_27
    refine wpC_skip ?_
    refine QE_then_n ?_
    refine wpC_seq ?_
    refine wpC_region ?_
    refine wpR_v (OpV_assign rfl) rfl ?_
    refine wpR_nil ?_
    refine QE_then_n ?_
    refine wpC_seq ?_
    refine wpC_seq ?_
    refine wpC_region ?_
    refine wpR_v (OpV_assign rfl) rfl ?_
    refine wpR_nil ?_
    refine QE_then_n ?_
    refine wpC_block ?_
    refine wpC_le [(0, vI a0), (1, v64 a1), (5, vI x_1), (6, vI 24), (7, vI 1)] ⟨rfl, rfl, rfl, rfl, rfl, trivial⟩ ?_
    refine loop_ind (F.ref30_Head_L1 a0 x_1 a1) (fun (s : Int × Int) L w => L = [(0, vI a0), (1, v64 a1), (5, vI x_1), (6, vI s.1), (7, vI s.2)] ∧ St [] w0 w []) ?_ (24, 1) ⟨rfl, hS⟩ h
    rintro k_26 ⟨x_4, x_5⟩ L w q_8 hI ih_7 h hk_6
    try dsimp only at hI
    obtain ⟨rfl, hS⟩ := hI
    unfold F.ref30_Head_L1 at h
    refine wpC_seq ?_
    refine wpC_seq ?_
    refine wpC_region ?_
    refine wpR_v (OpV_move rfl) rfl ?_
    refine wpR_v (OpV_move rfl) rfl ?_
    refine wpR_v (OpV_bin rfl rfl (b_ilss _ x_5 x_1)) rfl ?_
    refine wpR_nil ?_
    refine QE_then_n ?_
    refine wpC_cond rfl (fun hb_25 => ?_) (fun hb_25 => ?_)
    · have h := if_t h hb_25
      refine wpC_skip ?_
      refine QE_then_n ?_
      refine wpC_seq ?_
      refine wpC_block ?_
      refine wpC_region ?_
      refine wpR_v (OpV_move rfl) rfl ?_
      refine wpR_v (OpV_bin rfl rfl (b_iadd _ x_4 1)) rfl ?_
      refine wpR_v (OpV_assign rfl) rfl ?_
      refine wpR_nil ?_
      refine QE_blk_n ?_
      refine QE_then_n ?_
      refine wpC_region ?_
      refine wpR_v (OpV_move rfl) rfl ?_
      refine wpR_v (OpV_bin rfl rfl (b_imul _ 2 x_5)) rfl ?_
      refine wpR_v (OpV_assign rfl) rfl ?_
      refine wpR_nil ?_
      exact QE_rnd (wpN_le _ (by exact ⟨rfl, rfl, rfl, rfl, rfl, trivial⟩) (ih_7 (wI (x_4 + 1), wI (2 * x_5)) _ _ ⟨rfl, hS⟩ (oinl_some h hk_6)))
    · have h := if_f h hb_25
      refine wpC_exit ?_
      refine QE_then_x ?_
      refine QE_then_x ?_
      have h := oinr_some h hk_6
      refine QE_blk_x ?_
      refine QE_then_n ?_
      refine wpC_seq ?_
      refine wpC_region ?_
      refine wpR_v (OpV_move rfl) rfl ?_
      refine wpR_v (OpV_bin rfl rfl (b_imul _ 32 a0)) rfl ?_
      refine wpR_v (OpV_move rfl) rfl ?_
      refine wpR_v (OpV_bin rfl rfl (b_iadd _ (wI (32 * a0)) x_4)) rfl ?_
      refine wpR_v (OpV_conv rfl (cv_i_8 Tryd.underlying3 Tryd.underlying5 (wI ((wI (32 * a0)) + x_4)))) rfl ?_
      refine wpR_x (OpX_lit (e := e8) (l := [UInt8.ofInt (wI ((wI (32 * a0)) + x_4))]) (vs := [v8 (UInt8.ofInt (wI ((wI (32 * a0)) + x_4)))]) Tryd.underlying25 ti5 rfl rfl rfl rfl (by decide) (by decide) hS) rfl ?_
      rintro v_9 w hS
      refine wpR_v (OpV_assign rfl) rfl ?_
      refine wpR_nil ?_
      refine QE_then_n ?_
      refine wpC_seq ?_
      refine wpC_seq ?_
      refine wpC_region ?_
      refine wpR_v (OpV_move rfl) rfl ?_
      refine wpR_v (OpV_bin rfl rfl (b_isub _ x_1 1)) rfl ?_
      refine wpR_v (OpV_assign rfl) rfl ?_
      refine wpR_nil ?_
      refine QE_then_n ?_
      refine wpC_block ?_
      refine wpC_le [(1, v64 a1), (8, v_9), (9, vI (wI (x_1 - 1)))] ⟨rfl, rfl, rfl, trivial⟩ ?_
      refine loop_ind (F.ref30_Head_L2 a1) (fun (s : List UInt8 × Int) L w => ∃ (v_12 : Value), L = [(1, v64 a1), (8, v_12), (9, vI s.2)] ∧ St [] w0 w [own e8 v_12 s.1]) ?_ ([UInt8.ofInt (wI ((wI (32 * a0)) + x_4))], wI (x_1 - 1)) ⟨v_9, rfl, hS⟩ h
      rintro k_24 ⟨x_11, x_14⟩ L w q_17 hI ih_16 h hk_15
      try dsimp only at hI
      obtain ⟨v_12, rfl, hS⟩ := hI
      unfold F.ref30_Head_L2 at h
      refine wpC_seq ?_
      refine wpC_seq ?_
      refine wpC_region ?_
      refine wpR_v (OpV_move rfl) rfl ?_
      refine wpR_v (OpV_bin rfl rfl (b_igeq _ x_14 0)) rfl ?_
      refine wpR_nil ?_
      refine QE_then_n ?_
      refine wpC_cond rfl (fun hb_23 => ?_) (fun hb_23 => ?_)
      · have h := if_t h hb_23
        refine wpC_skip ?_
        refine QE_then_n ?_
        refine wpC_seq ?_
        refine wpC_block ?_
        refine wpC_region ?_
        refine wpR_v (OpV_move rfl) rfl ?_
        refine wpR_v (OpV_move rfl) rfl ?_
        refine wpR_v (OpV_move rfl) rfl ?_
        refine wpR_v (OpV_bin rfl rfl (b_imul _ 8 x_14)) rfl ?_
        refine wpR_v (OpV_conv rfl (cv_i_64 Tryd.underlying3 Tryd.underlying46 (wI (8 * x_14)))) rfl ?_
        refine wpR_v (OpV_bin rfl rfl (b_shr64_64 _ a1 (UInt64.ofInt (wI (8 * x_14))))) rfl ?_
        refine wpR_v (OpV_bin rfl rfl (b_and64 _ (shr64 a1 ((UInt64.ofInt (wI (8 * x_14))).toNat)) 255)) rfl ?_
        refine wpR_v (OpV_conv rfl (cv_64_8 Tryd.underlying31 Tryd.underlying5 ((shr64 a1 ((UInt64.ofInt (wI (8 * x_14))).toNat)) &&& 255))) rfl ?_
        refine wpR_x (OpX_lit (e := e8) (l := [((shr64 a1 ((UInt64.ofInt (wI (8 * x_14))).toNat)) &&& 255).toUInt8]) (vs := [v8 (((shr64 a1 ((UInt64.ofInt (wI (8 * x_14))).toNat)) &&& 255).toUInt8)]) Tryd.underlying25 ti5 rfl rfl rfl rfl (by decide) (by decide) hS) rfl ?_
        rintro v_18 w hS
        obtain ⟨x_20, hx_20, h⟩ := obind_some h
        refine wpR_x (G_append Tryd.underlying25 ti5 rfl rfl rfl hS (i := 1) rfl (hS.ro 0 rfl) hx_20) rfl ?_
        rintro v_21 w hS
        refine wpR_v (OpV_assign rfl) rfl ?_
        refine wpR_nil ?_
        refine QE_blk_n ?_
        refine QE_then_n ?_
        refine wpC_region ?_
        refine wpR_v (OpV_move rfl) rfl ?_
        refine wpR_v (OpV_bin rfl rfl (b_isub _ x_14 1)) rfl ?_
        refine wpR_v (OpV_assign rfl) rfl ?_
        refine wpR_nil ?_
        exact QE_rnd (wpN_le _ (by exact ⟨rfl, rfl, rfl, trivial⟩) (ih_16 (x_20, wI (x_14 - 1)) _ _ ⟨v_21, rfl, (hS.pick [1] (by decide) rfl)⟩ (oinl_some h hk_15)))
      · have h := if_f h hb_23
        refine wpC_exit ?_
        refine QE_then_x ?_
        refine QE_then_x ?_
        have h := oinr_some h hk_15
        refine QE_blk_x ?_
        refine QE_then_n ?_
        refine wpC_seq ?_
        refine wpC_region ?_
        refine wpR_v (OpV_move rfl) rfl ?_
        refine wpR_v (OpV_str Tryd.underlying25 Tryd.underlying5 Tryd.underlying9 rfl (hS.ro 0 rfl)) rfl ?_
        refine wpR_v (OpV_assign rfl) rfl ?_
        refine wpR_nil ?_
        refine QE_then_n ?_
        refine wpC_ret ?_
        cases h
        exact QE_ret1 rfl rfl ⟨rfl, hS.pick [] (by decide) rfl⟩

theorem c_ref30_utf8 (w0 : World) (a0 : List UInt8)   (r : Bool)
    (h : F.ref30_utf8 a0 = some r) : Calls Tryd.prog 52 #[vS a0] w0 (Ret fun v w => v = vB r ∧ St [] w0 w []) := by
  refine calls_at 7 Tryd.func52 rfl rfl rfl ?_
  have hS := St.start w0
  refine wpC_le [(0, vS a0)] ⟨rfl, trivial⟩ ?_
  unfold F.ref30_utf8 at h
  refine wpC_seq ?_
  refine wpC_region ?_
  refine wpR_v (OpV_assign rfl) rfl ?_
  refine wpR_nil ?_
  refine QE_then_n ?_
  refine wpC_seq ?_
  refine wpC_region ?_
  refine wpR_v (OpV_move rfl) rfl ?_
  refine wpR_v (OpV_build (vs := [(0, vI 5, [vI 5]), (2, vS a0, [vS a0])]) (cells := [vI 5, vS [], vS a0, vB false, vI 0, vI 0]) rfl lay99 ⟨rfl, rfl, trivial⟩ rfl) rfl ?_
  refine wpR_x (OpX_litE (e := (eP eI (eP eS (eP eS (eP eB (eP eI eI)))))) (l := ([(5, [], a0, false, 0, 0)] : List (Int × (List UInt8) × (List UInt8) × Bool × Int × Int))) (vs := [(0, .agg #[vI 5, vS [], vS a0, vB false, vI 0, vI 0], [vI 5, vS [], vS a0, vB false, vI 0, vI 0])]) Tryd.underlying100 ti99 rfl ⟨rfl, trivial⟩ rfl rfl (Nat.le_of_ble_eq_true rfl) (Nat.le_of_ble_eq_true rfl) hS) rfl ?_
  rintro v_1 w hS
  obtain ⟨x_3, hx_3, h⟩ := obind_some h
  refine wpR_call (by kernel_rfl) rfl (c_ref3_Shaped _ ([(5, [], a0, false, 0, 0)] : List (Int × (List UInt8) × (List UInt8) × Bool × Int × Int)) v_1  (hS.ro 0 rfl).rp _ hx_3) rfl ?_
  rintro _ w ⟨rfl, hS1⟩
  have hS := hS.call hS1
  simp only [List.cons_append, List.nil_append] at hS
  refine wpR_v (OpV_assign rfl) rfl ?_
  refine wpR_nil ?_
  refine QE_then_n ?_
  refine wpC_ret ?_
  cases h
  exact QE_ret1 rfl rfl ⟨rfl, hS.pick [] (by decide) rfl⟩

theorem c_ref30_Less (w0 : World) (a0 : List UInt8) (a1 : List UInt8)   (r : Bool)
    (h : F.ref30_Less a0 a1 = some r) : Calls Tryd.prog 53 #[vS a0, vS a1] w0 (Ret fun v w => v = vB r ∧ St [] w0 w []) := by
  refine calls_at 37 Tryd.func53 rfl rfl rfl ?_
  have hS := St.start w0
  refine wpC_le [(0, vS a0), (1, vS a1)] ⟨rfl, rfl, trivial⟩ ?_
  unfold F.ref30_Less at h
  refine wpC_seq ?_
  refine wpC_region ?_
  refine wpR_v (OpV_assign rfl) rfl ?_
  refine wpR_nil ?_
  refine QE_then_n ?_
  refine wpC_seq ?_
  refine wpC_seq ?_
  refine wpC_region ?_
  refine wpR_v (OpV_assign rfl) rfl ?_
  refine wpR_nil ?_
  refine QE_then_n ?_
  refine wpC_block ?_
  refine wpC_le [(0, vS a0), (1, vS a1), (5, vI 0)] ⟨rfl, rfl, rfl, trivial⟩ ?_
  refine loop_ind (F.ref30_Less_L1 a0 a1) (fun (s : Int) L w => L = [(0, vS a0), (1, vS a1), (5, vI s)] ∧ St [] w0 w []) ?_ 0 ⟨rfl, hS⟩ h
  rintro k_14 x_1 L w q_4 hI ih_3 h hk_2
  try dsimp only at hI
  obtain ⟨rfl, hS⟩ := hI
  unfold F.ref30_Less_L1 at h
  refine wpC_seq ?_
  refine seq_join (r := q_4) (fun (g : Bool) L w => L = [(0, vS a0), (1, vS a1), (5, vI x_1), (15, vB g)] ∧ St [] w0 w []) (F.ref30_Less_K1 a0 a1 x_1) ?_ ?_
  · rintro x_6 L w hJ h
    try dsimp only at hJ
    obtain ⟨rfl, hS⟩ := hJ
    unfold F.ref30_Less_K1 at h
    refine wpC_cond rfl (fun hb_13 => ?_) (fun hb_13 => ?_)
    · have h := if_t h hb_13
      refine wpC_skip ?_
      refine QE_then_n ?_
      refine wpC_seq ?_
      refine wpC_block ?_
      refine wpC_seq ?_
      refine wpC_regionT (fun w' => St [] w0 w' []) (fun _ => true) hmix (fun _ _ _ hf => hf.2) (fun _ _ hf => hf) (by kernel_rfl) ?_
      have hS := hS.drew
      show lxE _ _ _ _ _ _ _ [0, 1, 2, 3, 4, 5, 6] _ _
      refine lxE_v hS rfl rfl (fun w hF => OpV_move rfl) rfl ?_
      refine lxE_v hS rfl rfl (fun w hF => OpV_move rfl) rfl ?_
      obtain ⟨x_8, hx_8, h⟩ := obind_some h
      refine lxE_v hS rfl rfl (fun w hF => G_ixS Tryd.underlying9 rfl rfl hx_8) rfl ?_
      refine lxE_v hS rfl rfl (fun w hF => OpV_move rfl) rfl ?_
      refine lxE_v hS rfl rfl (fun w hF => OpV_move rfl) rfl ?_
      obtain ⟨x_9, hx_9, h⟩ := obind_some h
      refine lxE_v hS rfl rfl (fun w hF => G_ixS Tryd.underlying9 rfl rfl hx_9) rfl ?_
      refine lxE_v hS rfl rfl (fun w hF => OpV_bin rfl rfl (b_neq8 _ x_8 x_9)) rfl ?_
      refine lxE_nil hS ?_
      refine QE_then_n ?_
      refine wpC_cond rfl (fun hb_12 => ?_) (fun hb_12 => ?_)
      · have h := if_t h hb_12
        refine wpC_seq ?_
        refine wpC_regionT (fun w' => St [] w0 w' []) (fun _ => true) hmix (fun _ _ _ hf => hf.2) (fun _ _ hf => hf) (by kernel_rfl) ?_
        have hS := hS.drew
        show lxE _ _ _ _ _ _ _ [0, 1, 2, 3, 4, 5, 6, 7] _ _
        refine lxE_v hS rfl rfl (fun w hF => OpV_move rfl) rfl ?_
        refine lxE_v hS rfl rfl (fun w hF => OpV_move rfl) rfl ?_
        obtain ⟨x_10, hx_10, h⟩ := obind_some h
        refine lxE_v hS rfl rfl (fun w hF => G_ixS Tryd.underlying9 rfl rfl hx_10) rfl ?_
        refine lxE_v hS rfl rfl (fun w hF => OpV_move rfl) rfl ?_
        refine lxE_v hS rfl rfl (fun w hF => OpV_move rfl) rfl ?_
        obtain ⟨x_11, hx_11, h⟩ := obind_some h
        refine lxE_v hS rfl rfl (fun w hF => G_ixS Tryd.underlying9 rfl rfl hx_11) rfl ?_
        refine lxE_v hS rfl rfl (fun w hF => OpV_bin rfl rfl (b_lss8 _ x_10 x_11)) rfl ?_
        refine lxE_v hS rfl rfl (fun w hF => OpV_assign rfl) rfl ?_
        refine lxE_nil hS ?_
        refine QE_then_n ?_
        refine wpC_ret ?_
        refine QE_blk_r ?_
        refine QE_then_r ?_
        refine QE_then_r ?_
        have h := oinr_some h hk_2
        refine QE_blk_r ?_
        refine QE_then_r ?_
        cases h
        exact QE_ret1 rfl rfl ⟨rfl, hS⟩
      · have h := if_f h hb_12
        refine wpC_skip ?_
        refine QE_blk_n ?_
        refine QE_then_n ?_
        refine wpC_region ?_
        refine wpR_v (OpV_move rfl) rfl ?_
        refine wpR_v (OpV_bin rfl rfl (b_iadd _ x_1 1)) rfl ?_
        refine wpR_v (OpV_assign rfl) rfl ?_
        refine wpR_nil ?_
        exact QE_rnd (wpN_le _ (by exact ⟨rfl, rfl, rfl, trivial⟩) (ih_3 (wI (x_1 + 1)) _ _ ⟨rfl, hS⟩ (oinl_some h hk_2)))
    · have h := if_f h hb_13
      refine wpC_exit ?_
      refine QE_then_x ?_
      refine QE_then_x ?_
      have h := oinr_some h hk_2
      refine QE_blk_x ?_
      refine QE_then_n ?_
      refine wpC_seq ?_
      refine wpC_region ?_
      refine wpR_v (OpV_move rfl) rfl ?_
      refine wpR_v (OpV_lenS Tryd.underlying9 rfl) rfl ?_
      refine wpR_v (OpV_move rfl) rfl ?_
      refine wpR_v (OpV_lenS Tryd.underlying9 rfl) rfl ?_
      refine wpR_v (OpV_bin rfl rfl (b_ilss _ (a0.length : Int) (a1.length : Int))) rfl ?_
      refine wpR_v (OpV_assign rfl) rfl ?_
      refine wpR_nil ?_
      refine QE_then_n ?_
      refine wpC_ret ?_
      cases h
      exact QE_ret1 rfl rfl ⟨rfl, hS⟩
  · intro hK_7
    refine wpC_region ?_
    refine wpR_v (OpV_move rfl) rfl ?_
    refine wpR_v (OpV_move rfl) rfl ?_
    refine wpR_v (OpV_lenS Tryd.underlying9 rfl) rfl ?_
    refine wpR_v (OpV_bin rfl rfl (b_ilss _ x_1 (a0.length : Int))) rfl ?_
    refine wpR_v (OpV_move rfl) rfl ?_
    cases hb_5 : (decide (x_1 < (a0.length : Int)))
    case true =>
      have h := if_t h hb_5
      try simp only [hb_5]
      refine wpR_gv (t := 10) rfl rfl (OpV_move rfl) rfl ?_
      refine wpR_gv (t := 10) rfl rfl (OpV_move rfl) rfl ?_
      refine wpR_gv (t := 10) rfl rfl (OpV_lenS Tryd.underlying9 rfl) rfl ?_
      refine wpR_gv (t := 10) rfl rfl (OpV_bin rfl rfl (b_ilss _ x_1 (a1.length : Int))) rfl ?_
      refine wpR_v (OpV_pickT rfl rfl) rfl ?_
      refine wpR_nil ?_
      refine QE_then_n ?_
      exact wpC_le _ (by exact ⟨rfl, rfl, rfl, rfl, trivial⟩) (hK_7 (decide (x_1 < (a1.length : Int))) _ _ ⟨rfl, hS⟩ h)
    case false =>
      have h := if_f h hb_5
      try simp only [hb_5]
      refine wpR_gskip (b := false) (t := 10) rfl rfl rfl rfl ?_
      refine wpR_gskip (b := false) (t := 10) rfl rfl rfl rfl ?_
      refine wpR_gskip (b := false) (t := 10) rfl rfl rfl rfl ?_
      refine wpR_gskip (b := false) (t := 10) rfl rfl rfl rfl ?_
      refine wpR_v (OpV_pickF rfl rfl) rfl ?_
      refine wpR_nil ?_
      refine QE_then_n ?_
      exact wpC_le _ (by exact ⟨rfl, rfl, rfl, rfl, trivial⟩) (hK_7 false _ _ ⟨rfl, hS⟩ h)

end Go.Proofs
