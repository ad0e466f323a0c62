import Derived.Test.YtcdneplfgppapaaDoorWW0
import Derived.Test.YtcdneplfgppapaaDoorGkFref30
import Derived.Test.YtcdneplfgppapaaDoorWWref3
set_option linter.unusedVariables false
set_option linter.unusedSimpArgs false
set_option linter.unusedVariables false
set_option maxRecDepth 4000
namespace Go.Proofs
open Go Go.RowKit Go.Gk
theorem c_ref30_Beyond (w0 : World) (a0 : List (Int × UInt64 × (List UInt8) × Int)) (va0 : Value) (ha0 : RP [] w0 (eP eI (eP e64 (eP eS eI))) va0 a0) (r : Bool)
  (h : F.ref30_Beyond a0 = some r) : Calls Tryd.prog 14 #[va0] w0 (Ret fun v w => v = vB r ∧ St [] w0 w []) := by
 refine calls_at 54 Tryd.func14 rfl rfl rfl ?_
 have hS := St.start w0
 refine wpC_le [(0, va0)] ⟨rfl, trivial⟩ ?_
 unfold F.ref30_Beyond at h
 refine wpC_seq ?_
 refine wpC_region ?_
 refine wpR_v (OpV_assign rfl) rfl ?_
 refine wpR_nil ?_
 refine QE_then_n ?_
 refine wpC_seq ?_
 refine wpC_region ?_
 refine wpR_v (OpV_assign rfl) rfl ?_
 refine wpR_nil ?_
 refine QE_then_n ?_
 refine wpC_seq ?_
 refine wpC_seq ?_
 refine wpC_region ?_
 refine wpR_v (OpV_assign rfl) rfl ?_
 refine wpR_nil ?_
 refine QE_then_n ?_
 refine wpC_block ?_
 refine wpC_le [(0, va0), (3, .slice none 0 0), (4, vI 0)] ⟨rfl, rfl, rfl, trivial⟩ ?_
 refine loop_ind (F.ref30_Beyond_L1 a0) (fun (s : List Int × Int) L w => ∃ (v_2 : Value), L = [(0, va0), (3, v_2), (4, vI s.2)] ∧ St [] w0 w [own eI v_2 s.1]) ?_ ([], 0) ⟨.slice none 0 0, rfl, (hS.nil eI)⟩ h
 rintro k_35 ⟨x_1, x_4⟩ L w q_7 hI ih_6 h hk_5
 try dsimp only at hI
 obtain ⟨v_2, rfl, hS⟩ := hI
 unfold F.ref30_Beyond_L1 at h
 refine wpC_seq ?_
 refine wpC_seq ?_
 refine wpC_region ?_
 refine wpR_v (OpV_move rfl) rfl ?_
 refine wpR_v (OpV_move rfl) rfl ?_
 refine wpR_v (OpV_len Tryd.underlying22 rfl (ha0.now hS.fr)) rfl ?_
 refine wpR_v (OpV_bin rfl rfl (b_ilss _ x_4 (a0.length : Int))) rfl ?_
 refine wpR_nil ?_
 refine QE_then_n ?_
 refine wpC_cond rfl (fun hb_34 => ?_) (fun hb_34 => ?_)
 ·have h := if_t h hb_34
  refine wpC_skip ?_
  refine QE_then_n ?_
  refine wpC_seq ?_
  refine wpC_block ?_
  refine wpC_seq ?_
  refine wpC_block ?_
  refine wpC_le [(0, va0), (3, v_2), (4, vI x_4)] ⟨rfl, rfl, rfl, trivial⟩ ?_
  refine loop_ind (F.ref30_Beyond_L2 a0 x_4) (fun (s : List Int) L w => ∃ (v_9 : Value), L = [(0, va0), (3, v_9), (4, vI x_4)] ∧ St [] w0 w [own eI v_9 s]) ?_ x_1 ⟨v_2, rfl, hS⟩ h
  rintro k_33 x_8 L w q_13 hI ih_12 h hk_11
  try dsimp only at hI
  obtain ⟨v_9, rfl, hS⟩ := hI
  unfold F.ref30_Beyond_L2 at h
  refine wpC_seq ?_
  refine seq_join (r := q_13) (fun (g : Bool) L w => L = [(0, va0), (3, v_9), (4, vI x_4), (22, vB g)] ∧ St [] w0 w [own eI v_9 x_8]) (F.ref30_Beyond_K1 x_8 a0 x_4) ?_ ?_
  ·rintro x_16 L w hJ h
   try dsimp only at hJ
   obtain ⟨rfl, hS⟩ := hJ
   unfold F.ref30_Beyond_K1 at h
   refine wpC_cond rfl (fun hb_32 => ?_) (fun hb_32 => ?_)
   ·have h := if_t h hb_32
    refine wpC_skip ?_
    refine QE_then_n ?_
    refine wpC_block ?_
    refine wpC_region ?_
    refine wpR_v (OpV_move rfl) rfl ?_
    refine wpR_v (OpV_move rfl) rfl ?_
    refine wpR_v (OpV_len Tryd.underlying54 rfl (hS.ro 0 rfl)) rfl ?_
    refine wpR_v (OpV_bin rfl rfl (b_isub _ (x_8.length : Int) 1)) rfl ?_
    obtain ⟨hg_18, h⟩ := grd_some h
    refine wpR_v (G_slh Tryd.underlying54 ti3 rfl rfl (hS.ro 0 rfl) (tkO_of hg_18)) rfl ?_
    refine wpR_v (OpV_assign rfl) rfl ?_
    refine wpR_nil ?_
    refine QE_blk_n ?_
    exact QE_rnd (wpN_le _ (by exact ⟨rfl, rfl, rfl, trivial⟩) (ih_12 (x_8.take ((wI ((x_8.length : Int) - 1) : Int).toNat)) _ _ ⟨slV v_9 eI.sz 0 ((wI ((x_8.length : Int) - 1) : Int).toNat), rfl, (hS.trunc (i := 0) rfl hg_18.2)⟩ (oinl_some h hk_11)))
   ·have h := if_f h hb_32
    refine wpC_exit ?_
    refine QE_then_x ?_
    refine QE_then_x ?_
    have h := oinr_some h hk_11
    refine QE_blk_x ?_
    refine QE_then_n ?_
    refine seq_join (r := q_7) (fun (g : List Int) L w => L = [(0, va0), (3, v_9), (4, vI x_4)] ∧ St [] w0 w [own eI v_9 g]) (F.ref30_Beyond_K2 a0 x_4) ?_ ?_
    ·rintro x_23 L w hJ h
     try dsimp only at hJ
     obtain ⟨rfl, hS⟩ := hJ
     unfold F.ref30_Beyond_K2 at h
     refine wpC_seq ?_
     refine wpC_region ?_
     refine wpR_v (OpV_move rfl) rfl ?_
     refine wpR_v (OpV_move rfl) rfl ?_
     refine wpR_v (OpV_move rfl) rfl ?_
     obtain ⟨x_25, hx_25, h⟩ := obind_some h
     refine wpR_v (G_ix Tryd.underlying22 ti33 rfl rfl (ha0.now hS.fr) hx_25) rfl ?_
     refine wpR_v (OpV_fieldE (k := 3) Tryd.underlying33 rfl rfl nz3 rfl) rfl ?_
     refine wpR_v (G_loadF Tryd.underlying3 rfl rfl (ha0.now hS.fr) hx_25 rfl rfl) rfl ?_
     refine wpR_x (OpX_lit (e := eI) (l := ([x_25.2.2.2] : List Int)) (vs := [vI x_25.2.2.2]) Tryd.underlying54 ti3 rfl rfl rfl rfl (by decide) (by decide) hS) rfl ?_
     rintro v_26 w hS
     obtain ⟨x_28, hx_28, h⟩ := obind_some h
     refine wpR_x (G_append Tryd.underlying54 ti3 rfl rfl rfl hS (i := 1) rfl (hS.ro 0 rfl) hx_28) rfl ?_
     rintro v_29 w hS
     refine wpR_v (OpV_assign rfl) rfl ?_
     refine wpR_nil ?_
     refine QE_then_n ?_
     refine wpC_seq ?_
     refine wpC_region ?_
     refine wpR_v (OpV_move rfl) rfl ?_
     refine wpR_v (OpV_len Tryd.underlying54 rfl (hS.ro 1 rfl)) rfl ?_
     refine wpR_v (OpV_bin rfl rfl (b_igtr _ (x_28.length : Int) 65536)) rfl ?_
     refine wpR_nil ?_
     refine QE_then_n ?_
     refine wpC_cond rfl (fun hb_31 => ?_) (fun hb_31 => ?_)
     ·have h := if_t h hb_31
      refine wpC_seq ?_
      refine wpC_region ?_
      refine wpR_v (OpV_assign rfl) rfl ?_
      refine wpR_nil ?_
      refine QE_then_n ?_
      refine wpC_ret ?_
      refine QE_blk_r ?_
      refine QE_then_r ?_
      refine QE_then_r ?_
      have h := oinr_some h hk_5
      refine QE_blk_r ?_
      refine QE_then_r ?_
      cases h
      exact QE_ret1 rfl rfl ⟨rfl, hS.pick [] (by decide) rfl⟩
     ·have h := if_f h hb_31
      refine wpC_skip ?_
      refine QE_blk_n ?_
      refine QE_then_n ?_
      refine wpC_region ?_
      refine wpR_v (OpV_move rfl) rfl ?_
      refine wpR_v (OpV_bin rfl rfl (b_iadd _ x_4 1)) rfl ?_
      refine wpR_v (OpV_assign rfl) rfl ?_
      refine wpR_nil ?_
      exact QE_rnd (wpN_le _ (by exact ⟨rfl, rfl, rfl, trivial⟩) (ih_6 (x_28, wI (x_4 + 1)) _ _ ⟨v_29, rfl, (hS.pick [1] (by decide) rfl)⟩ (oinl_some h hk_5)))
    ·intro hK_24
     refine wpC_seq ?_
     refine wpC_region ?_
     refine wpR_v (OpV_move rfl) rfl ?_
     refine wpR_v (OpV_len Tryd.underlying54 rfl (hS.ro 0 rfl)) rfl ?_
     refine wpR_v (OpV_bin rfl rfl (b_igtr _ (x_8.length : Int) 0)) rfl ?_
     refine wpR_nil ?_
     refine QE_then_n ?_
     refine wpC_cond rfl (fun hb_22 => ?_) (fun hb_22 => ?_)
     ·have h := if_t h hb_22
      refine wpC_region ?_
      refine wpR_v (OpV_move rfl) rfl ?_
      refine wpR_v (OpV_move rfl) rfl ?_
      refine wpR_v (OpV_len Tryd.underlying54 rfl (hS.ro 0 rfl)) rfl ?_
      refine wpR_v (OpV_bin rfl rfl (b_isub _ (x_8.length : Int) 1)) rfl ?_
      refine wpR_v (OpV_move rfl) rfl ?_
      refine wpR_v (OpV_move rfl) rfl ?_
      refine wpR_v (OpV_len Tryd.underlying54 rfl (hS.ro 0 rfl)) rfl ?_
      refine wpR_v (OpV_bin rfl rfl (b_isub _ (x_8.length : Int) 1)) rfl ?_
      obtain ⟨x_19, hx_19, h⟩ := obind_some h
      refine wpR_v (G_ix Tryd.underlying54 ti3 rfl rfl (hS.ro 0 rfl) hx_19) rfl ?_
      refine wpR_v (G_load Tryd.underlying3 rfl rfl (hS.ro 0 rfl) hx_19 rfl) rfl ?_
      refine wpR_v (OpV_bin rfl rfl (b_isub _ x_19 1)) rfl ?_
      obtain ⟨x_20, hx_20, h⟩ := obind_some h
      refine wpR_v (G_ix Tryd.underlying54 ti3 rfl rfl (hS.ro 0 rfl) hx_20) rfl ?_
      refine wpR_y (G_storeE (t := (wI (x_19 - 1))) ti3 rfl rfl hS (i := 0) rfl hx_20 rfl) ?_
      intro w hS
      obtain ⟨x_21, hx_21, h⟩ := olet_some h
      rw [hx_21] at hS
      refine wpR_nil ?_
      refine QE_then_n ?_
      exact wpC_le _ (by exact ⟨rfl, rfl, rfl, trivial⟩) (hK_24 x_21 _ _ ⟨rfl, hS⟩ h)
     ·have h := if_f h hb_22
      refine wpC_skip ?_
      refine QE_then_n ?_
      exact wpC_le _ (by exact ⟨rfl, rfl, rfl, trivial⟩) (hK_24 x_8 _ _ ⟨rfl, hS⟩ h)
  ·intro hK_17
   refine wpC_region ?_
   refine wpR_v (OpV_move rfl) rfl ?_
   refine wpR_v (OpV_len Tryd.underlying54 rfl (hS.ro 0 rfl)) rfl ?_
   refine wpR_v (OpV_bin rfl rfl (b_igtr _ (x_8.length : Int) 0)) rfl ?_
   refine wpR_v (OpV_move rfl) rfl ?_
   cases hb_14 : (decide ((0 : Int) < (x_8.length : Int)))
   case true =>
    have h := if_t h hb_14
    try simp only [hb_14]
    refine wpR_gv (t := 14) rfl rfl (OpV_move rfl) rfl ?_
    refine wpR_gv (t := 14) rfl rfl (OpV_move rfl) rfl ?_
    refine wpR_gv (t := 14) rfl rfl (OpV_len Tryd.underlying54 rfl (hS.ro 0 rfl)) rfl ?_
    refine wpR_gv (t := 14) rfl rfl (OpV_bin rfl rfl (b_isub _ (x_8.length : Int) 1)) rfl ?_
    obtain ⟨x_15, hx_15, h⟩ := obind_some h
    refine wpR_gv (t := 14) rfl rfl (G_ix Tryd.underlying54 ti3 rfl rfl (hS.ro 0 rfl) hx_15) rfl ?_
    refine wpR_gv (t := 14) rfl rfl (G_load Tryd.underlying3 rfl rfl (hS.ro 0 rfl) hx_15 rfl) rfl ?_
    refine wpR_gv (t := 14) rfl rfl (OpV_bin rfl rfl (b_ileq _ x_15 0)) rfl ?_
    refine wpR_v (OpV_pickT rfl rfl) rfl ?_
    refine wpR_nil ?_
    refine QE_then_n ?_
    exact wpC_le _ (by exact ⟨rfl, rfl, rfl, rfl, trivial⟩) (hK_17 (decide (x_15 ≤ 0)) _ _ ⟨rfl, hS⟩ h)
   case false =>
    have h := if_f h hb_14
    try simp only [hb_14]
    refine wpR_gskip (b := false) (t := 14) rfl rfl rfl rfl ?_
    refine wpR_gskip (b := false) (t := 14) rfl rfl rfl rfl ?_
    refine wpR_gskip (b := false) (t := 14) rfl rfl rfl rfl ?_
    refine wpR_gskip (b := false) (t := 14) rfl rfl rfl rfl ?_
    refine wpR_gskip (b := false) (t := 14) rfl rfl rfl rfl ?_
    refine wpR_gskip (b := false) (t := 14) rfl rfl rfl rfl ?_
    refine wpR_gskip (b := false) (t := 14) rfl rfl rfl rfl ?_
    refine wpR_v (OpV_pickF rfl rfl) rfl ?_
    refine wpR_nil ?_
    refine QE_then_n ?_
    exact wpC_le _ (by exact ⟨rfl, rfl, rfl, rfl, trivial⟩) (hK_17 false _ _ ⟨rfl, hS⟩ h)
 ·have h := if_f h hb_34
  refine wpC_exit ?_
  refine QE_then_x ?_
  refine QE_then_x ?_
  have h := oinr_some h hk_5
  refine QE_blk_x ?_
  refine QE_then_n ?_
  refine wpC_seq ?_
  refine wpC_region ?_
  refine wpR_v (OpV_assign rfl) rfl ?_
  refine wpR_nil ?_
  refine QE_then_n ?_
  refine wpC_ret ?_
  cases h
  exact QE_ret1 rfl rfl ⟨rfl, hS.pick [] (by decide) rfl⟩
end Go.Proofs
