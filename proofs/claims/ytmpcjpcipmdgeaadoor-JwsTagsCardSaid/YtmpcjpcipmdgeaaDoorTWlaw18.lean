import Derived.Test.YtmpcjpcipmdgeaaDoorTW0
import Derived.Test.YtmpcjpcipmdgeaaDoorGkFlaw18
import Derived.Test.YtmpcjpcipmdgeaaDoorTWjws
import Derived.Test.YtmpcjpcipmdgeaaDoorTWref18
set_option linter.unusedVariables false
set_option linter.unusedSimpArgs false
set_option linter.unusedVariables false
set_option maxRecDepth 4000
namespace Go.Proofs
open Go Go.RowKit Go.Gk
theorem c_law18_lent (w0 : World) (a0 : List UInt8) (va0 : Value) (ha0 : RP [] w0 e8 va0 a0) (r : (List UInt8 × Nat))
  (h : F.law18_lent a0 = some r) : Calls Tryd.prog 4 #[va0] w0 (Ret fun v w => ∃ u0 : Value, v = slV u0 e8.sz 0 r.2 ∧ r.2 ≤ r.1.length ∧ St [] w0 w [own e8 u0 r.1]) := by
 refine calls_at 19 Tryd.func4 rfl rfl rfl ?_
 have hS := St.start w0
 refine wpC_le [(0, va0)] ⟨rfl, trivial⟩ ?_
 unfold F.law18_lent at h
 refine wpC_seq (wpC_region (wpR_run 1 rfl ?_))
 refine wpR_nil (QE_then_n (wpC_seq (wpC_region (wpR_run 1 rfl ?_))))
 refine wpR_nil (QE_then_n (wpC_seq (wpC_region (wpR_run 2 rfl ?_))))
 obtain ⟨x_1, hx_1, h⟩ := obind_some h
 refine wpR_x (G_append0 Tryd.underlying23 ti5 rfl rfl rfl hS (ha0.now hS.fr) hx_1) rfl ?_
 rintro v_2 w hS
 refine wpR_run 1 rfl ?_
 refine wpR_nil (QE_then_n (wpC_seq (wpC_seq (wpC_region (wpR_run 1 rfl ?_)))))
 refine wpR_nil (QE_then_n (wpC_block ?_))
 refine wpC_le [(0, va0), (3, v_2), (4, vI 0)] ⟨rfl, rfl, rfl, trivial⟩ ?_
 refine loop_ind (F.law18_lent_L1 a0) (fun (s : List UInt8 × Int) L w => ∃ (v_5 : Value), L = [(0, va0), (3, v_5), (4, vI s.2)] ∧ St [] w0 w [own e8 v_5 s.1]) ?_ (x_1, 0) ⟨v_2, rfl, hS⟩ h
 rintro k_18 ⟨x_4, x_7⟩ L w q_10 hI ih_9 h hk_8
 try dsimp only at hI
 obtain ⟨v_5, rfl, hS⟩ := hI
 unfold F.law18_lent_L1 at h
 refine wpC_seq (wpC_seq (wpC_region (wpR_run 2 rfl ?_)))
 refine wpR_nil (QE_then_n ?_)
 refine wpC_cond rfl (fun hb_17 => ?_) (fun hb_17 => ?_)
 ·have h := if_t h hb_17
  refine wpC_skip (QE_then_n (wpC_seq (wpC_block ?_)))
  refine wpC_region (wpR_run 1 rfl ?_)
  refine wpR_x (OpX_lit (e := e8) (l := [165]) (vs := [v8 165]) Tryd.underlying23 ti5 rfl rfl rfl rfl (by decide) (by decide) hS) rfl ?_
  rintro v_11 w hS
  obtain ⟨x_13, hx_13, h⟩ := obind_some h
  refine wpR_x (G_append Tryd.underlying23 ti5 rfl rfl rfl hS (i := 1) rfl (hS.ro 0 rfl) hx_13) rfl ?_
  rintro v_14 w hS
  refine wpR_run 1 rfl ?_
  refine wpR_nil (QE_blk_n ?_)
  refine QE_then_n (wpC_region (wpR_run 3 rfl ?_))
  refine wpR_nil ?_
  exact QE_rnd (wpN_le _ (by exact ⟨rfl, rfl, rfl, trivial⟩) (ih_9 (x_13, wI (x_7 + 1)) _ _ ⟨v_14, rfl, (hS.pick [1] (by decide) rfl)⟩ (oinl_some h hk_8)))
 have h := if_f h hb_17
 refine wpC_exit ?_
 refine QE_then_x (QE_then_x ?_)
 have h := oinr_some h hk_8
 refine QE_blk_x ?_
 refine QE_then_n (wpC_seq (wpC_region (wpR_run 2 rfl ?_)))
 refine wpR_v (OpV_len Tryd.underlying23 rfl (ha0.now hS.fr)) rfl ?_
 obtain ⟨hg_16, h⟩ := grd_some h
 refine wpR_v (G_slh Tryd.underlying23 ti5 rfl rfl (hS.ro 0 rfl) (tkO_of hg_16)) rfl ?_
 refine wpR_run 1 rfl ?_
 refine wpR_nil (QE_then_n (wpC_ret ?_))
 cases h
 exact QE_ret1 rfl rfl ⟨v_5, rfl, hg_16.2, hS.pick [0] (by decide) rfl⟩
theorem c_law18_same (w0 : World) (a0 : List UInt8) (a1 : List UInt8) (va0 : Value) (va1 : Value) (ha0 : RP [] w0 e8 va0 a0) (ha1 : RP [] w0 e8 va1 a1) (r : Bool)
  (h : F.law18_same a0 a1 = some r) : Calls Tryd.prog 7 #[va0, va1] w0 (Ret fun v w => v = vB r ∧ St [] w0 w []) := by
 refine calls_at 26 Tryd.func7 rfl rfl rfl ?_
 have hS := St.start w0
 refine wpC_le [(0, va0), (1, va1)] ⟨rfl, rfl, trivial⟩ ?_
 unfold F.law18_same at h
 refine wpC_seq (wpC_region (wpR_run 1 rfl ?_))
 refine wpR_nil (QE_then_n (wpC_seq (wpC_seq (wpC_region (wpR_run 1 rfl ?_)))))
 refine wpR_v (OpV_len Tryd.underlying23 rfl (ha0.now hS.fr)) rfl ?_
 refine wpR_run 1 rfl ?_
 refine wpR_v (OpV_len Tryd.underlying23 rfl (ha1.now hS.fr)) rfl ?_
 refine wpR_run 1 rfl ?_
 refine wpR_nil (QE_then_n ?_)
 refine wpC_cond rfl (fun hb_10 => ?_) (fun hb_10 => ?_)
 ·have h := if_t h hb_10
  refine wpC_seq (wpC_region (wpR_run 1 rfl ?_))
  refine wpR_nil (QE_then_n (wpC_ret (QE_then_r ?_)))
  cases h
  exact QE_ret1 rfl rfl ⟨rfl, hS⟩
 have h := if_f h hb_10
 refine wpC_skip (QE_then_n (wpC_seq (wpC_seq (wpC_region (wpR_run 1 rfl ?_)))))
 refine wpR_nil (QE_then_n (wpC_block ?_))
 refine wpC_le [(0, va0), (1, va1), (5, vI 0)] ⟨rfl, rfl, rfl, trivial⟩ ?_
 refine loop_ind (F.law18_same_L1 a0 a1) (fun (s : Int) L w => L = [(0, va0), (1, va1), (5, vI s)] ∧ St [] w0 w []) ?_ 0 ⟨rfl, hS⟩ h
 rintro k_9 x_1 L w q_4 hI ih_3 h hk_2
 try dsimp only at hI
 obtain ⟨rfl, hS⟩ := hI
 unfold F.law18_same_L1 at h
 refine wpC_seq (wpC_seq (wpC_region (wpR_run 2 rfl ?_)))
 refine wpR_v (OpV_len Tryd.underlying23 rfl (ha0.now hS.fr)) rfl ?_
 refine wpR_run 1 rfl ?_
 refine wpR_nil (QE_then_n ?_)
 refine wpC_cond rfl (fun hb_8 => ?_) (fun hb_8 => ?_)
 ·have h := if_t h hb_8
  refine wpC_skip (QE_then_n (wpC_seq (wpC_block ?_)))
  refine wpC_seq ?_
  refine wpC_regionT (fun w' => St [] w0 w' []) (fun _ => true) hmix (fun _ _ _ hf => hf.2) (fun _ _ hf => hf) (by kernel_rfl) ?_
  have hS := hS.drew
  show lxE _ _ _ _ _ _ _ [0, 1, 2, 3, 4, 5, 6, 7, 8] _ _
  refine lxE_v hS rfl rfl (fun w hF => OpV_move rfl) rfl ?_
  refine lxE_v hS rfl rfl (fun w hF => OpV_move rfl) rfl ?_
  obtain ⟨x_5, hx_5, h⟩ := obind_some h
  refine lxE_v hS rfl rfl (fun w hF => G_ix Tryd.underlying23 ti5 rfl rfl (ha0.now hF.fr) hx_5) rfl ?_
  refine lxE_v hS rfl rfl (fun w hF => G_load Tryd.underlying5 rfl rfl (ha0.now hF.fr) hx_5 rfl) rfl ?_
  refine lxE_v hS rfl rfl (fun w hF => OpV_move rfl) rfl ?_
  refine lxE_v hS rfl rfl (fun w hF => OpV_move rfl) rfl ?_
  obtain ⟨x_6, hx_6, h⟩ := obind_some h
  refine lxE_v hS rfl rfl (fun w hF => G_ix Tryd.underlying23 ti5 rfl rfl (ha1.now hF.fr) hx_6) rfl ?_
  refine lxE_v hS rfl rfl (fun w hF => G_load Tryd.underlying5 rfl rfl (ha1.now hF.fr) hx_6 rfl) rfl ?_
  refine lxE_v hS rfl rfl (fun w hF => OpV_bin rfl rfl (b_neq8 _ x_5 x_6)) rfl ?_
  refine lxE_nil hS ?_
  refine QE_then_n ?_
  refine wpC_cond rfl (fun hb_7 => ?_) (fun hb_7 => ?_)
  ·have h := if_t h hb_7
   refine wpC_seq (wpC_region (wpR_run 1 rfl ?_))
   refine wpR_nil (QE_then_n (wpC_ret (QE_blk_r ?_)))
   refine QE_then_r (QE_then_r ?_)
   have h := oinr_some h hk_2
   refine QE_blk_r ?_
   refine QE_then_r ?_
   cases h
   exact QE_ret1 rfl rfl ⟨rfl, hS⟩
  have h := if_f h hb_7
  refine wpC_skip (QE_blk_n ?_)
  refine QE_then_n (wpC_region (wpR_run 3 rfl ?_))
  refine wpR_nil ?_
  exact QE_rnd (wpN_le _ (by exact ⟨rfl, rfl, rfl, trivial⟩) (ih_3 (wI (x_1 + 1)) _ _ ⟨rfl, hS⟩ (oinl_some h hk_2)))
 have h := if_f h hb_8
 refine wpC_exit ?_
 refine QE_then_x (QE_then_x ?_)
 have h := oinr_some h hk_2
 refine QE_blk_x ?_
 refine QE_then_n (wpC_seq (wpC_region (wpR_run 1 rfl ?_)))
 refine wpR_nil (QE_then_n (wpC_ret ?_))
 cases h
 exact QE_ret1 rfl rfl ⟨rfl, hS⟩
theorem c_law18_still (w0 : World) (a0 : List UInt8) (k0 : Nat) (a1 : List UInt8) (va0 : Value) (va1 : Value) (ha0 : RP [] w0 e8 va0 a0) (hk0 : k0 ≤ a0.length) (ha1 : RP [] w0 e8 va1 a1) (r : Bool)
  (h : F.law18_still a0 k0 a1 = some r) : Calls Tryd.prog 8 #[slV va0 e8.sz 0 k0, va1] w0 (Ret fun v w => v = vB r ∧ St [] w0 w []) := by
 refine calls_at 51 Tryd.func8 rfl rfl rfl ?_
 have hS := St.start w0
 refine wpC_le [(0, slV va0 e8.sz 0 k0), (1, va1)] ⟨rfl, rfl, trivial⟩ ?_
 unfold F.law18_still at h
 refine wpC_seq (wpC_region (wpR_run 1 rfl ?_))
 refine wpR_nil (QE_then_n (wpC_seq (wpC_seq (wpC_region (wpR_run 1 rfl ?_)))))
 refine wpR_v (OpV_len Tryd.underlying23 rfl ((ha0.now hS.fr).tk hk0)) rfl ?_
 refine wpR_run 1 rfl ?_
 refine wpR_v (OpV_len Tryd.underlying23 rfl (ha1.now hS.fr)) rfl ?_
 refine wpR_run 1 rfl ?_
 refine wpR_nil (QE_then_n ?_)
 refine wpC_cond rfl (fun hb_19 => ?_) (fun hb_19 => ?_)
 ·have h := if_t h hb_19
  refine wpC_seq (wpC_region (wpR_run 1 rfl ?_))
  refine wpR_nil (QE_then_n (wpC_ret (QE_then_r ?_)))
  cases h
  exact QE_ret1 rfl rfl ⟨rfl, hS⟩
 have h := if_f h hb_19
 refine wpC_skip (QE_then_n (wpC_seq (wpC_region (wpR_run 2 rfl ?_))))
 refine wpR_v (OpV_len Tryd.underlying23 rfl (ha1.now hS.fr)) rfl ?_
 refine wpR_run 1 rfl ?_
 obtain ⟨hg_1, h⟩ := grd_some h
 refine wpR_v (G_slh_room Tryd.underlying23 ti5 rfl rfl (ha0.now hS.fr) (tkO_of hg_1)) rfl ?_
 refine wpR_run 1 rfl ?_
 refine wpR_nil (QE_then_n (wpC_seq (wpC_seq (wpC_region (wpR_run 1 rfl ?_)))))
 refine wpR_nil (QE_then_n (wpC_block ?_))
 refine wpC_le [(1, va1), (5, slV va0 e8.sz 0 ((wI ((a1.length : Int) + 40) : Int).toNat)), (6, vI 0)] ⟨rfl, rfl, rfl, trivial⟩ ?_
 refine loop_ind (F.law18_still_L1 a0 a1) (fun (s : Int) L w => L = [(1, va1), (5, slV va0 e8.sz 0 ((wI ((a1.length : Int) + 40) : Int).toNat)), (6, vI s)] ∧ St [] w0 w []) ?_ 0 ⟨rfl, hS⟩ h
 rintro k_18 x_2 L w q_5 hI ih_4 h hk_3
 try dsimp only at hI
 obtain ⟨rfl, hS⟩ := hI
 unfold F.law18_still_L1 at h
 refine wpC_seq (wpC_seq (wpC_region (wpR_run 2 rfl ?_)))
 refine wpR_v (OpV_len Tryd.underlying23 rfl ((ha0.now hS.fr).tk hg_1.2)) rfl ?_
 refine wpR_run 1 rfl ?_
 refine wpR_nil (QE_then_n ?_)
 refine wpC_cond rfl (fun hb_17 => ?_) (fun hb_17 => ?_)
 ·have h := if_t h hb_17
  refine wpC_skip (QE_then_n (wpC_seq (wpC_block ?_)))
  refine seq_join (r := q_5) (fun (g : Bool) L w => L = [(1, va1), (5, slV va0 e8.sz 0 ((wI ((a1.length : Int) + 40) : Int).toNat)), (6, vI x_2), (50, vB g)] ∧ St [] w0 w []) (F.law18_still_K1 x_2) ?_ ?_
  rotate_left
  ·intro hK_15
   refine wpC_regionT (fun w' => St [] w0 w' []) (fun _ => true) hmix (fun _ _ _ hf => hf.2) (fun _ _ hf => hf) (by kernel_rfl) ?_
   have hS := hS.drew
   show lxE _ _ _ _ _ _ _ [0, 1, 2, 3, 4, 5, 6, 7, 8, 9, 10, 11, 12, 13, 14, 15, 16, 17, 18, 19, 20, 21, 22, 23, 24, 25, 26, 27] _ _
   refine lxE_v hS rfl rfl (fun w hF => OpV_move rfl) rfl ?_
   refine lxE_v hS rfl rfl (fun w hF => OpV_move rfl) rfl ?_
   refine lxE_v hS rfl rfl (fun w hF => OpV_len Tryd.underlying23 rfl (ha1.now hF.fr)) rfl ?_
   refine lxE_v hS rfl rfl (fun w hF => OpV_bin rfl rfl (b_ilss _ x_2 (a1.length : Int))) rfl ?_
   refine lxE_v hS rfl rfl (fun w hF => OpV_move rfl) rfl ?_
   cases hb_6 : (decide (x_2 < (a1.length : Int)))
   case true =>
    have h := if_t h hb_6
    try simp only [hb_6]
    refine lxE_gv (t := 27) hS rfl rfl rfl rfl (fun w hF => OpV_move rfl) rfl ?_
    refine lxE_gv (t := 27) hS rfl rfl rfl rfl (fun w hF => OpV_move rfl) rfl ?_
    obtain ⟨x_7, hx_7, h⟩ := obind_some h
    refine lxE_gv (t := 27) hS rfl rfl rfl rfl (fun w hF => G_ix_room Tryd.underlying23 ti5 rfl rfl (ha0.now hF.fr) hg_1.2 hx_7) rfl ?_
    refine lxE_gv (t := 27) hS rfl rfl rfl rfl (fun w hF => G_load Tryd.underlying5 rfl rfl (ha0.now hF.fr) (getO_take hx_7) rfl) rfl ?_
    refine lxE_gv (t := 27) hS rfl rfl rfl rfl (fun w hF => OpV_move rfl) rfl ?_
    refine lxE_gv (t := 27) hS rfl rfl rfl rfl (fun w hF => OpV_move rfl) rfl ?_
    obtain ⟨x_8, hx_8, h⟩ := obind_some h
    refine lxE_gv (t := 27) hS rfl rfl rfl rfl (fun w hF => G_ix Tryd.underlying23 ti5 rfl rfl (ha1.now hF.fr) hx_8) rfl ?_
    refine lxE_gv (t := 27) hS rfl rfl rfl rfl (fun w hF => G_load Tryd.underlying5 rfl rfl (ha1.now hF.fr) hx_8 rfl) rfl ?_
    refine lxE_gv (t := 27) hS rfl rfl rfl rfl (fun w hF => OpV_bin rfl rfl (b_neq8 _ x_7 x_8)) rfl ?_
    refine lxE_v hS rfl rfl (fun w hF => OpV_pickT rfl rfl) rfl ?_
    refine lxE_v hS rfl rfl (fun w hF => OpV_move rfl) rfl ?_
    cases hb_9 : (x_7 != x_8)
    case true =>
     have h := if_t h hb_9
     try simp only [hb_9]
     refine lxE_gskip (b := true) (t := 38) hS rfl rfl rfl rfl rfl rfl ?_
     refine lxE_gskip (b := true) (t := 38) hS rfl rfl rfl rfl rfl rfl ?_
     refine lxE_gskip (b := true) (t := 38) hS rfl rfl rfl rfl rfl rfl ?_
     refine lxE_gskip (b := true) (t := 38) hS rfl rfl rfl rfl rfl rfl ?_
     refine lxE_gskip (b := true) (t := 38) hS rfl rfl rfl rfl rfl rfl ?_
     refine lxE_gskipU (t := 43) hS rfl rfl rfl rfl rfl ?_
     refine lxE_gskipU (t := 43) hS rfl rfl rfl rfl rfl ?_
     refine lxE_gskipU (t := 43) hS rfl rfl rfl rfl rfl ?_
     refine lxE_gskipU (t := 43) hS rfl rfl rfl rfl rfl ?_
     refine lxE_gskipU (t := 43) hS rfl rfl rfl rfl rfl ?_
     refine lxE_gskip (b := true) (t := 38) hS rfl rfl rfl rfl rfl rfl ?_
     refine lxE_v hS rfl rfl (fun w hF => OpV_pickT rfl rfl) rfl ?_
     refine lxE_nil hS ?_
     refine QE_then_n ?_
     exact wpC_le _ (by exact ⟨rfl, rfl, rfl, rfl, trivial⟩) (hK_15 true _ _ ⟨rfl, hS⟩ h)
    case false =>
     have h := if_f h hb_9
     try simp only [hb_9]
     refine lxE_gv (t := 38) hS rfl rfl rfl rfl (fun w hF => OpV_move rfl) rfl ?_
     refine lxE_gv (t := 38) hS rfl rfl rfl rfl (fun w hF => OpV_move rfl) rfl ?_
     refine lxE_gv (t := 38) hS rfl rfl rfl rfl (fun w hF => OpV_len Tryd.underlying23 rfl (ha1.now hF.fr)) rfl ?_
     refine lxE_gv (t := 38) hS rfl rfl rfl rfl (fun w hF => OpV_bin rfl rfl (b_igeq _ x_2 (a1.length : Int))) rfl ?_
     refine lxE_gv (t := 38) hS rfl rfl rfl rfl (fun w hF => OpV_move rfl) rfl ?_
     cases hb_10 : (decide ((a1.length : Int) ≤ x_2))
     case true =>
      have h := if_t h hb_10
      try simp only [hb_10]
      refine lxE_gv (t := 43) hS rfl rfl rfl rfl (fun w hF => OpV_move rfl) rfl ?_
      refine lxE_gv (t := 43) hS rfl rfl rfl rfl (fun w hF => OpV_move rfl) rfl ?_
      obtain ⟨x_11, hx_11, h⟩ := obind_some h
      refine lxE_gv (t := 43) hS rfl rfl rfl rfl (fun w hF => G_ix_room Tryd.underlying23 ti5 rfl rfl (ha0.now hF.fr) hg_1.2 hx_11) rfl ?_
      refine lxE_gv (t := 43) hS rfl rfl rfl rfl (fun w hF => G_load Tryd.underlying5 rfl rfl (ha0.now hF.fr) (getO_take hx_11) rfl) rfl ?_
      refine lxE_gv (t := 43) hS rfl rfl rfl rfl (fun w hF => OpV_bin rfl rfl (b_neq8 _ x_11 165)) rfl ?_
      refine lxE_gv (t := 38) hS rfl rfl rfl rfl (fun w hF => OpV_pickT rfl rfl) rfl ?_
      refine lxE_v hS rfl rfl (fun w hF => OpV_pickF rfl rfl) rfl ?_
      refine lxE_nil hS ?_
      refine QE_then_n ?_
      exact wpC_le _ (by exact ⟨rfl, rfl, rfl, rfl, trivial⟩) (hK_15 (x_11 != 165) _ _ ⟨rfl, hS⟩ h)
     case false =>
      have h := if_f h hb_10
      try simp only [hb_10]
      refine lxE_gskip (b := false) (t := 43) hS rfl rfl rfl rfl rfl rfl ?_
      refine lxE_gskip (b := false) (t := 43) hS rfl rfl rfl rfl rfl rfl ?_
      refine lxE_gskip (b := false) (t := 43) hS rfl rfl rfl rfl rfl rfl ?_
      refine lxE_gskip (b := false) (t := 43) hS rfl rfl rfl rfl rfl rfl ?_
      refine lxE_gskip (b := false) (t := 43) hS rfl rfl rfl rfl rfl rfl ?_
      refine lxE_gv (t := 38) hS rfl rfl rfl rfl (fun w hF => OpV_pickF rfl rfl) rfl ?_
      refine lxE_v hS rfl rfl (fun w hF => OpV_pickF rfl rfl) rfl ?_
      refine lxE_nil hS ?_
      refine QE_then_n ?_
      exact wpC_le _ (by exact ⟨rfl, rfl, rfl, rfl, trivial⟩) (hK_15 false _ _ ⟨rfl, hS⟩ h)
   case false =>
    have h := if_f h hb_6
    try simp only [hb_6]
    refine lxE_gskip (b := false) (t := 27) hS rfl rfl rfl rfl rfl rfl ?_
    refine lxE_gskip (b := false) (t := 27) hS rfl rfl rfl rfl rfl rfl ?_
    refine lxE_gskip (b := false) (t := 27) hS rfl rfl rfl rfl rfl rfl ?_
    refine lxE_gskip (b := false) (t := 27) hS rfl rfl rfl rfl rfl rfl ?_
    refine lxE_gskip (b := false) (t := 27) hS rfl rfl rfl rfl rfl rfl ?_
    refine lxE_gskip (b := false) (t := 27) hS rfl rfl rfl rfl rfl rfl ?_
    refine lxE_gskip (b := false) (t := 27) hS rfl rfl rfl rfl rfl rfl ?_
    refine lxE_gskip (b := false) (t := 27) hS rfl rfl rfl rfl rfl rfl ?_
    refine lxE_gskip (b := false) (t := 27) hS rfl rfl rfl rfl rfl rfl ?_
    refine lxE_v hS rfl rfl (fun w hF => OpV_pickF rfl rfl) rfl ?_
    refine lxE_v hS rfl rfl (fun w hF => OpV_move rfl) rfl ?_
    refine lxE_gv (t := 38) hS rfl rfl rfl rfl (fun w hF => OpV_move rfl) rfl ?_
    refine lxE_gv (t := 38) hS rfl rfl rfl rfl (fun w hF => OpV_move rfl) rfl ?_
    refine lxE_gv (t := 38) hS rfl rfl rfl rfl (fun w hF => OpV_len Tryd.underlying23 rfl (ha1.now hF.fr)) rfl ?_
    refine lxE_gv (t := 38) hS rfl rfl rfl rfl (fun w hF => OpV_bin rfl rfl (b_igeq _ x_2 (a1.length : Int))) rfl ?_
    refine lxE_gv (t := 38) hS rfl rfl rfl rfl (fun w hF => OpV_move rfl) rfl ?_
    cases hb_12 : (decide ((a1.length : Int) ≤ x_2))
    case true =>
     have h := if_t h hb_12
     try simp only [hb_12]
     refine lxE_gv (t := 43) hS rfl rfl rfl rfl (fun w hF => OpV_move rfl) rfl ?_
     refine lxE_gv (t := 43) hS rfl rfl rfl rfl (fun w hF => OpV_move rfl) rfl ?_
     obtain ⟨x_13, hx_13, h⟩ := obind_some h
     refine lxE_gv (t := 43) hS rfl rfl rfl rfl (fun w hF => G_ix_room Tryd.underlying23 ti5 rfl rfl (ha0.now hF.fr) hg_1.2 hx_13) rfl ?_
     refine lxE_gv (t := 43) hS rfl rfl rfl rfl (fun w hF => G_load Tryd.underlying5 rfl rfl (ha0.now hF.fr) (getO_take hx_13) rfl) rfl ?_
     refine lxE_gv (t := 43) hS rfl rfl rfl rfl (fun w hF => OpV_bin rfl rfl (b_neq8 _ x_13 165)) rfl ?_
     refine lxE_gv (t := 38) hS rfl rfl rfl rfl (fun w hF => OpV_pickT rfl rfl) rfl ?_
     refine lxE_v hS rfl rfl (fun w hF => OpV_pickF rfl rfl) rfl ?_
     refine lxE_nil hS ?_
     refine QE_then_n ?_
     exact wpC_le _ (by exact ⟨rfl, rfl, rfl, rfl, trivial⟩) (hK_15 (x_13 != 165) _ _ ⟨rfl, hS⟩ h)
    case false =>
     have h := if_f h hb_12
     try simp only [hb_12]
     refine lxE_gskip (b := false) (t := 43) hS rfl rfl rfl rfl rfl rfl ?_
     refine lxE_gskip (b := false) (t := 43) hS rfl rfl rfl rfl rfl rfl ?_
     refine lxE_gskip (b := false) (t := 43) hS rfl rfl rfl rfl rfl rfl ?_
     refine lxE_gskip (b := false) (t := 43) hS rfl rfl rfl rfl rfl rfl ?_
     refine lxE_gskip (b := false) (t := 43) hS rfl rfl rfl rfl rfl rfl ?_
     refine lxE_gv (t := 38) hS rfl rfl rfl rfl (fun w hF => OpV_pickF rfl rfl) rfl ?_
     refine lxE_v hS rfl rfl (fun w hF => OpV_pickF rfl rfl) rfl ?_
     refine lxE_nil hS ?_
     refine QE_then_n ?_
     exact wpC_le _ (by exact ⟨rfl, rfl, rfl, rfl, trivial⟩) (hK_15 false _ _ ⟨rfl, hS⟩ h)
  rintro x_14 L w hJ h
  try dsimp only at hJ
  obtain ⟨rfl, hS⟩ := hJ
  unfold F.law18_still_K1 at h
  refine wpC_cond rfl (fun hb_16 => ?_) (fun hb_16 => ?_)
  ·have h := if_t h hb_16
   refine wpC_seq (wpC_region (wpR_run 1 rfl ?_))
   refine wpR_nil (QE_then_n (wpC_ret (QE_blk_r ?_)))
   refine QE_then_r (QE_then_r ?_)
   have h := oinr_some h hk_3
   refine QE_blk_r ?_
   refine QE_then_r ?_
   cases h
   exact QE_ret1 rfl rfl ⟨rfl, hS⟩
  have h := if_f h hb_16
  refine wpC_skip (QE_blk_n ?_)
  refine QE_then_n (wpC_region (wpR_run 3 rfl ?_))
  refine wpR_nil ?_
  exact QE_rnd (wpN_le _ (by exact ⟨rfl, rfl, rfl, trivial⟩) (ih_4 (wI (x_2 + 1)) _ _ ⟨rfl, hS⟩ (oinl_some h hk_3)))
 have h := if_f h hb_17
 refine wpC_exit ?_
 refine QE_then_x (QE_then_x ?_)
 have h := oinr_some h hk_3
 refine QE_blk_x ?_
 refine QE_then_n (wpC_seq (wpC_region (wpR_run 1 rfl ?_)))
 refine wpR_nil (QE_then_n (wpC_ret ?_))
 cases h
 exact QE_ret1 rfl rfl ⟨rfl, hS⟩
theorem c_law18_marked (w0 : World) (a0 : List UInt8) (a1 : Int) (a2 : UInt8) (a3 : UInt8) (va0 : Value) (ha0 : RP [] w0 e8 va0 a0) (r : Bool)
  (h : F.law18_marked a0 a1 a2 a3 = some r) : Calls Tryd.prog 9 #[va0, vI a1, v8 a2, v8 a3] w0 (Ret fun v w => v = vB r ∧ St [] w0 w []) := by
 refine calls_at 45 Tryd.func9 rfl rfl rfl ?_
 have hS := St.start w0
 refine wpC_le [(0, va0), (1, vI a1), (2, v8 a2), (3, v8 a3)] ⟨rfl, rfl, rfl, rfl, trivial⟩ ?_
 unfold F.law18_marked at h
 refine wpC_seq (wpC_region (wpR_run 1 rfl ?_))
 refine wpR_nil (QE_then_n (wpC_seq (wpC_seq (wpC_region (wpR_run 1 rfl ?_)))))
 refine wpR_nil (QE_then_n (wpC_block ?_))
 refine wpC_le [(0, va0), (1, vI a1), (2, v8 a2), (3, v8 a3), (9, vI 0)] ⟨rfl, rfl, rfl, rfl, rfl, trivial⟩ ?_
 refine loop_ind (F.law18_marked_L1 a0 a1 a2 a3) (fun (s : Int) L w => L = [(0, va0), (1, vI a1), (2, v8 a2), (3, v8 a3), (9, vI s)] ∧ St [] w0 w []) ?_ 0 ⟨rfl, hS⟩ h
 rintro k_16 x_1 L w q_4 hI ih_3 h hk_2
 try dsimp only at hI
 obtain ⟨rfl, hS⟩ := hI
 unfold F.law18_marked_L1 at h
 refine wpC_seq (wpC_seq (wpC_region (wpR_run 2 rfl ?_)))
 refine wpR_v (OpV_len Tryd.underlying23 rfl (ha0.now hS.fr)) rfl ?_
 refine wpR_run 1 rfl ?_
 refine wpR_nil (QE_then_n ?_)
 refine wpC_cond rfl (fun hb_15 => ?_) (fun hb_15 => ?_)
 ·have h := if_t h hb_15
  refine wpC_skip (QE_then_n (wpC_seq (wpC_block ?_)))
  refine seq_join (r := q_4) (fun (g : Bool) L w => L = [(0, va0), (1, vI a1), (2, v8 a2), (3, v8 a3), (9, vI x_1), (39, vB g)] ∧ St [] w0 w []) (F.law18_marked_K1 x_1) ?_ ?_
  rotate_left
  ·intro hK_13
   refine wpC_region (wpR_run 4 rfl ?_)
   cases hb_5 : (decide (x_1 < a1))
   case true =>
    have h := if_t h hb_5
    try simp only [hb_5]
    refine wpR_run 2 rfl ?_
    obtain ⟨x_6, hx_6, h⟩ := obind_some h
    refine wpR_gv (t := 19) rfl rfl (G_ix Tryd.underlying23 ti5 rfl rfl (ha0.now hS.fr) hx_6) rfl ?_
    refine wpR_gv (t := 19) rfl rfl (G_load Tryd.underlying5 rfl rfl (ha0.now hS.fr) hx_6 rfl) rfl ?_
    refine wpR_run 1 rfl ?_
    refine wpR_gv (t := 19) rfl rfl (OpV_bin rfl rfl (b_neq8 _ x_6 a2)) rfl ?_
    refine wpR_run 2 rfl ?_
    cases hb_7 : (x_6 != a2)
    case true =>
     have h := if_t h hb_7
     try simp only [hb_7]
     refine wpR_run 12 rfl ?_
     refine wpR_nil (QE_then_n ?_)
     exact wpC_le _ (by exact ⟨rfl, rfl, rfl, rfl, rfl, rfl, trivial⟩) (hK_13 true _ _ ⟨rfl, hS⟩ h)
    case false =>
     have h := if_f h hb_7
     try simp only [hb_7]
     refine wpR_run 4 rfl ?_
     cases hb_8 : (decide (a1 ≤ x_1))
     case true =>
      have h := if_t h hb_8
      try simp only [hb_8]
      refine wpR_run 2 rfl ?_
      obtain ⟨x_9, hx_9, h⟩ := obind_some h
      refine wpR_gv (t := 31) rfl rfl (G_ix Tryd.underlying23 ti5 rfl rfl (ha0.now hS.fr) hx_9) rfl ?_
      refine wpR_gv (t := 31) rfl rfl (G_load Tryd.underlying5 rfl rfl (ha0.now hS.fr) hx_9 rfl) rfl ?_
      refine wpR_run 1 rfl ?_
      refine wpR_gv (t := 31) rfl rfl (OpV_bin rfl rfl (b_neq8 _ x_9 a3)) rfl ?_
      refine wpR_run 2 rfl ?_
      refine wpR_nil (QE_then_n ?_)
      exact wpC_le _ (by exact ⟨rfl, rfl, rfl, rfl, rfl, rfl, trivial⟩) (hK_13 (x_9 != a3) _ _ ⟨rfl, hS⟩ h)
     case false =>
      have h := if_f h hb_8
      try simp only [hb_8]
      refine wpR_run 8 rfl ?_
      refine wpR_nil (QE_then_n ?_)
      exact wpC_le _ (by exact ⟨rfl, rfl, rfl, rfl, rfl, rfl, trivial⟩) (hK_13 false _ _ ⟨rfl, hS⟩ h)
   case false =>
    have h := if_f h hb_5
    try simp only [hb_5]
    refine wpR_run 12 rfl ?_
    cases hb_10 : (decide (a1 ≤ x_1))
    case true =>
     have h := if_t h hb_10
     try simp only [hb_10]
     refine wpR_run 2 rfl ?_
     obtain ⟨x_11, hx_11, h⟩ := obind_some h
     refine wpR_gv (t := 31) rfl rfl (G_ix Tryd.underlying23 ti5 rfl rfl (ha0.now hS.fr) hx_11) rfl ?_
     refine wpR_gv (t := 31) rfl rfl (G_load Tryd.underlying5 rfl rfl (ha0.now hS.fr) hx_11 rfl) rfl ?_
     refine wpR_run 1 rfl ?_
     refine wpR_gv (t := 31) rfl rfl (OpV_bin rfl rfl (b_neq8 _ x_11 a3)) rfl ?_
     refine wpR_run 2 rfl ?_
     refine wpR_nil (QE_then_n ?_)
     exact wpC_le _ (by exact ⟨rfl, rfl, rfl, rfl, rfl, rfl, trivial⟩) (hK_13 (x_11 != a3) _ _ ⟨rfl, hS⟩ h)
    case false =>
     have h := if_f h hb_10
     try simp only [hb_10]
     refine wpR_run 8 rfl ?_
     refine wpR_nil (QE_then_n ?_)
     exact wpC_le _ (by exact ⟨rfl, rfl, rfl, rfl, rfl, rfl, trivial⟩) (hK_13 false _ _ ⟨rfl, hS⟩ h)
  rintro x_12 L w hJ h
  try dsimp only at hJ
  obtain ⟨rfl, hS⟩ := hJ
  unfold F.law18_marked_K1 at h
  refine wpC_cond rfl (fun hb_14 => ?_) (fun hb_14 => ?_)
  ·have h := if_t h hb_14
   refine wpC_seq (wpC_region (wpR_run 1 rfl ?_))
   refine wpR_nil (QE_then_n (wpC_ret (QE_blk_r ?_)))
   refine QE_then_r (QE_then_r ?_)
   have h := oinr_some h hk_2
   refine QE_blk_r ?_
   refine QE_then_r ?_
   cases h
   exact QE_ret1 rfl rfl ⟨rfl, hS⟩
  have h := if_f h hb_14
  refine wpC_skip (QE_blk_n ?_)
  refine QE_then_n (wpC_region (wpR_run 3 rfl ?_))
  refine wpR_nil ?_
  exact QE_rnd (wpN_le _ (by exact ⟨rfl, rfl, rfl, rfl, rfl, trivial⟩) (ih_3 (wI (x_1 + 1)) _ _ ⟨rfl, hS⟩ (oinl_some h hk_2)))
 have h := if_f h hb_15
 refine wpC_exit ?_
 refine QE_then_x (QE_then_x ?_)
 have h := oinr_some h hk_2
 refine QE_blk_x ?_
 refine QE_then_n (wpC_seq (wpC_region (wpR_run 1 rfl ?_)))
 refine wpR_v (OpV_len Tryd.underlying23 rfl (ha0.now hS.fr)) rfl ?_
 refine wpR_run 4 rfl ?_
 refine wpR_nil (QE_then_n (wpC_ret ?_))
 cases h
 exact QE_ret1 rfl rfl ⟨rfl, hS⟩
set_option maxHeartbeats 8000000 in
theorem c_law18_JwsTags (w0 : World) (a0 : Int) (a1 : List UInt8) (a2 : List UInt8) (va1 : Value) (hT : TB [] w0) (ha1 : RP [] w0 e8 va1 a1) (r : Bool)
  (h : F.law18_JwsTags a0 a1 a2 = some r) : Calls Tryd.prog 3 #[vI a0, va1, vS a2] w0 (Ret fun v w => v = vB r ∧ St [] w0 w []) := by
 refine calls_at 180 Tryd.func3 rfl rfl rfl ?_
 have hS := St.start w0
 refine wpC_le [(0, vI a0), (1, va1), (2, vS a2)] ⟨rfl, rfl, rfl, trivial⟩ ?_
 unfold F.law18_JwsTags at h
 refine wpC_seq (wpC_region (wpR_run 1 rfl ?_))
 refine wpR_nil (QE_then_n (wpC_seq (wpC_region (wpR_run 1 rfl ?_))))
 obtain ⟨x_1, hx_1, h⟩ := obind_some h
 refine wpR_call (by kernel_rfl) rfl (c_law18_lent _ a1 va1  (ha1.now hS.fr).rp _ hx_1) rfl ?_
 rintro _ w ⟨v_2, rfl, hk_4, hS1⟩
 have hS := hS.call hS1
 simp only [List.cons_append, List.nil_append] at hS
 refine wpR_run 1 rfl ?_
 refine wpR_nil (QE_then_n (wpC_seq (wpC_region (wpR_run 3 rfl ?_))))
 obtain ⟨x_5, hx_5, h⟩ := obind_some h
 refine wpR_call (by kernel_rfl) rfl (c_jws_Tag _ a0 (x_1.1.take x_1.2) a2 (slV v_2 e8.sz 0 x_1.2)  (hT.now hS.fr) ((hS.ro 0 rfl).tk hk_4).rp _ hx_5) rfl ?_
 rintro _ w ⟨v_6, rfl, hS1⟩
 have hS := hS.call hS1
 simp only [List.cons_append, List.nil_append] at hS
 refine wpR_run 5 rfl ?_
 refine wpR_nil (QE_then_n (wpC_seq (wpC_region (wpR_run 3 rfl ?_))))
 obtain ⟨x_8, hx_8, h⟩ := obind_some h
 refine wpR_call (by kernel_rfl) rfl (c_jws_Tag _ a0 (x_1.1.take x_1.2) a2 (slV v_2 e8.sz 0 x_1.2)  (hT.now hS.fr) ((hS.ro 1 rfl).tk hk_4).rp _ hx_8) rfl ?_
 rintro _ w ⟨v_9, rfl, hS1⟩
 have hS := hS.call hS1
 simp only [List.cons_append, List.nil_append] at hS
 refine wpR_run 5 rfl ?_
 refine wpR_nil (QE_then_n (wpC_seq (wpC_region (wpR_run 3 rfl ?_))))
 obtain ⟨x_11, hx_11, h⟩ := obind_some h
 refine wpR_call (by kernel_rfl) rfl (c_ref18_Tag _ a0 a1 a2 va1  (hT.now hS.fr) (ha1.now hS.fr).rp _ hx_11) rfl ?_
 rintro _ w ⟨v_12, rfl, hS1⟩
 have hS := hS.call hS1
 simp only [List.cons_append, List.nil_append] at hS
 refine wpR_run 5 rfl ?_
 refine wpR_nil (QE_then_n (wpC_seq ?_))
 refine seq_join (r := r) (fun (g : Bool) L w => L = [(0, vI a0), (1, va1), (2, vS a2), (7, slV v_2 e8.sz 0 x_1.2), (8, v_6), (10, v_9), (12, v_12), (13, vI x_11.2), (62, vB g)] ∧ St [] w0 w [own e8 v_2 x_1.1, own e8 v_6 x_5.1, own e8 v_9 x_8.1, own e8 v_12 x_11.1]) (F.law18_JwsTags_K1 x_5 a0 a2 x_1 x_8 x_11 a1) ?_ ?_
 rotate_left
 ·intro hK_19
  refine wpC_region (wpR_run 2 rfl ?_)
  obtain ⟨x_14, hx_14, h⟩ := obind_some h
  refine wpR_call (by kernel_rfl) rfl (c_law18_same _ x_5.1 x_11.1 v_6 v_12  (hS.ro 2 rfl).rp (hS.ro 0 rfl).rp _ hx_14) rfl ?_
  rintro _ w ⟨rfl, hS1⟩
  have hS := hS.call hS1
  simp only [List.cons_append, List.nil_append] at hS
  refine wpR_run 2 rfl ?_
  cases hb_15 : (!x_14)
  case true =>
   have h := if_t h hb_15
   try simp only [hb_15]
   refine wpR_run 10 rfl ?_
   refine wpR_nil (QE_then_n ?_)
   exact wpC_le _ (by exact ⟨rfl, rfl, rfl, rfl, rfl, rfl, rfl, rfl, rfl, trivial⟩) (hK_19 true _ _ ⟨rfl, (hS.pick [3, 2, 1, 0] (by decide) rfl)⟩ h)
  case false =>
   have h := if_f h hb_15
   try simp only [hb_15]
   refine wpR_run 5 rfl ?_
   cases hb_16 : (x_5.2 != x_11.2)
   case true =>
    have h := if_t h hb_16
    try simp only [hb_16]
    refine wpR_run 5 rfl ?_
    refine wpR_nil (QE_then_n ?_)
    exact wpC_le _ (by exact ⟨rfl, rfl, rfl, rfl, rfl, rfl, rfl, rfl, rfl, trivial⟩) (hK_19 true _ _ ⟨rfl, (hS.pick [3, 2, 1, 0] (by decide) rfl)⟩ h)
   case false =>
    have h := if_f h hb_16
    try simp only [hb_16]
    refine wpR_run 2 rfl ?_
    obtain ⟨x_17, hx_17, h⟩ := obind_some h
    refine wpR_gcall (t := 57) rfl rfl (by kernel_rfl) rfl (c_law18_same _ x_8.1 x_11.1 v_9 v_12  (hS.ro 1 rfl).rp (hS.ro 0 rfl).rp _ hx_17) rfl ?_
    rintro _ w ⟨rfl, hS1⟩
    have hS := hS.call hS1
    simp only [List.cons_append, List.nil_append] at hS
    refine wpR_run 2 rfl ?_
    refine wpR_nil (QE_then_n ?_)
    exact wpC_le _ (by exact ⟨rfl, rfl, rfl, rfl, rfl, rfl, rfl, rfl, rfl, trivial⟩) (hK_19 (!x_17) _ _ ⟨rfl, (hS.pick [3, 2, 1, 0] (by decide) rfl)⟩ h)
 rintro x_18 L w hJ h
 try dsimp only at hJ
 obtain ⟨rfl, hS⟩ := hJ
 unfold F.law18_JwsTags_K1 at h
 refine wpC_cond rfl (fun hb_95 => ?_) (fun hb_95 => ?_)
 ·have h := if_t h hb_95
  refine wpC_seq (wpC_region (wpR_run 1 rfl ?_))
  refine wpR_nil (QE_then_n (wpC_ret (QE_then_r ?_)))
  cases h
  exact QE_ret1 rfl rfl ⟨rfl, hS.pick [] (by decide) rfl⟩
 have h := if_f h hb_95
 refine wpC_skip (QE_then_n (wpC_seq (wpC_seq (wpC_region (wpR_run 1 rfl ?_)))))
 refine wpR_nil (QE_then_n (wpC_block ?_))
 refine wpC_le [(0, vI a0), (1, va1), (2, vS a2), (7, slV v_2 e8.sz 0 x_1.2), (8, v_6), (10, v_9), (12, v_12), (13, vI x_11.2), (14, vI 0)] ⟨rfl, rfl, rfl, rfl, rfl, rfl, rfl, rfl, rfl, trivial⟩ ?_
 refine loop_ind (F.law18_JwsTags_L1 a0 a2 x_1 x_8 x_11 a1) (fun (s : Int × List UInt8) L w => L = [(0, vI a0), (1, va1), (2, vS a2), (7, slV v_2 e8.sz 0 x_1.2), (8, v_6), (10, v_9), (12, v_12), (13, vI x_11.2), (14, vI s.1)] ∧ St [] w0 w [own e8 v_2 x_1.1, own e8 v_6 s.2, own e8 v_9 x_8.1, own e8 v_12 x_11.1]) ?_ (0, x_5.1) ⟨rfl, hS⟩ h
 rintro k_94 ⟨x_20, x_21⟩ L w q_24 hI ih_23 h hk_22
 try dsimp only at hI
 obtain ⟨rfl, hS⟩ := hI
 unfold F.law18_JwsTags_L1 at h
 refine wpC_seq (wpC_seq (wpC_region (wpR_run 2 rfl ?_)))
 refine wpR_v (OpV_len Tryd.underlying23 rfl (hS.ro 1 rfl)) rfl ?_
 refine wpR_run 1 rfl ?_
 refine wpR_nil (QE_then_n ?_)
 refine wpC_cond rfl (fun hb_93 => ?_) (fun hb_93 => ?_)
 ·have h := if_t h hb_93
  refine wpC_skip (QE_then_n (wpC_seq (wpC_block ?_)))
  refine wpC_region (wpR_run 2 rfl ?_)
  obtain ⟨x_25, hx_25, h⟩ := obind_some h
  refine wpR_v (G_ix Tryd.underlying23 ti5 rfl rfl (hS.ro 1 rfl) hx_25) rfl ?_
  refine wpR_y (G_storeE (t := 119) ti5 rfl rfl hS (i := 1) rfl hx_25 rfl) ?_
  intro w hS
  obtain ⟨x_26, hx_26, h⟩ := olet_some h
  rw [hx_26] at hS
  refine wpR_nil (QE_blk_n ?_)
  refine QE_then_n (wpC_region (wpR_run 3 rfl ?_))
  refine wpR_nil ?_
  exact QE_rnd (wpN_le _ (by exact ⟨rfl, rfl, rfl, rfl, rfl, rfl, rfl, rfl, rfl, trivial⟩) (ih_23 (wI (x_20 + 1), x_26) _ _ ⟨rfl, hS⟩ (oinl_some h hk_22)))
 have h := if_f h hb_93
 refine wpC_exit ?_
 refine QE_then_x (QE_then_x ?_)
 have h := oinr_some h hk_22
 refine QE_blk_x ?_
 refine QE_then_n (wpC_seq (wpC_region (wpR_run 2 rfl ?_)))
 have hA_28 := (hS.ro 1 rfl).tw
 replace hS := hS.twin 1 rfl
 refine wpR_nil (QE_then_n (wpC_seq (wpC_seq (wpC_region (wpR_run 1 rfl ?_)))))
 refine wpR_nil (QE_then_n (wpC_block ?_))
 refine wpC_le [(0, vI a0), (1, va1), (2, vS a2), (7, slV v_2 e8.sz 0 x_1.2), (8, v_6), (10, v_9), (12, v_12), (13, vI x_11.2), (15, v_6), (16, vI 0)] ⟨rfl, rfl, rfl, rfl, rfl, rfl, rfl, rfl, rfl, rfl, trivial⟩ ?_
 refine loop_ind (F.law18_JwsTags_L2 a0 a2 x_1 x_8 x_11 a1 x_21) (fun (s : List UInt8 × Int) L w => ∃ (v_30 : Value) (b_33 : Nat), L = [(0, vI a0), (1, va1), (2, vS a2), (7, slV v_2 e8.sz 0 x_1.2), (8, v_6), (10, v_9), (12, v_12), (13, vI x_11.2), (15, v_30), (16, vI s.2)] ∧ Tw v_6 x_21 v_30 s.1 b_33 ∧ St [] w0 w [own e8 v_30 s.1, own e8 v_2 x_1.1, twE e8 v_6 x_21 b_33, own e8 v_9 x_8.1, own e8 v_12 x_11.1]) ?_ (x_21, 0) ⟨v_6, 0, rfl, hA_28, (hS.pick [2, 1, 0, 3, 4] (by decide) rfl)⟩ h
 rintro k_92 ⟨x_29, x_32⟩ L w q_37 hI ih_36 h hk_35
 try dsimp only at hI
 obtain ⟨v_30, b_33, rfl, hA_34, hS⟩ := hI
 unfold F.law18_JwsTags_L2 at h
 refine wpC_seq (wpC_seq (wpC_region (wpR_run 2 rfl ?_)))
 refine wpR_nil (QE_then_n ?_)
 refine wpC_cond rfl (fun hb_91 => ?_) (fun hb_91 => ?_)
 ·have h := if_t h hb_91
  refine wpC_skip (QE_then_n (wpC_seq (wpC_block ?_)))
  refine wpC_region (wpR_run 1 rfl ?_)
  refine wpR_x (OpX_lit (e := e8) (l := [120]) (vs := [v8 120]) Tryd.underlying23 ti5 rfl rfl rfl rfl (by decide) (by decide) hS) rfl ?_
  rintro v_38 w hS
  obtain ⟨x_40, hx_40, h⟩ := obind_some h
  refine wpR_x (G_append_tw Tryd.underlying23 ti5 rfl rfl rfl hS (i := 1) (j := 3) rfl rfl hA_34 (hS.ro 0 rfl) hx_40) rfl ?_
  rintro v_41 w ⟨b_42, hA_43, hS⟩
  refine wpR_run 1 rfl ?_
  refine wpR_nil (QE_blk_n ?_)
  refine QE_then_n (wpC_region (wpR_run 3 rfl ?_))
  refine wpR_nil ?_
  exact QE_rnd (wpN_le _ (by exact ⟨rfl, rfl, rfl, rfl, rfl, rfl, rfl, rfl, rfl, rfl, trivial⟩) (ih_36 (x_40, wI (x_32 + 1)) _ _ ⟨v_41, b_42, rfl, hA_43, (hS.pick [1, 2, 3, 4, 5] (by decide) rfl)⟩ (oinl_some h hk_35)))
 have h := if_f h hb_91
 refine wpC_exit ?_
 refine QE_then_x (QE_then_x ?_)
 have h := oinr_some h hk_35
 refine QE_blk_x ?_
 refine QE_then_n (wpC_seq (wpC_seq (wpC_region (wpR_run 2 rfl ?_))))
 obtain ⟨x_45, hx_45, h⟩ := obind_some h
 refine wpR_call (by kernel_rfl) rfl (c_law18_same _ x_8.1 x_11.1 v_9 v_12  (hS.ro 3 rfl).rp (hS.ro 4 rfl).rp _ hx_45) rfl ?_
 rintro _ w ⟨rfl, hS1⟩
 have hS := hS.call hS1
 simp only [List.cons_append, List.nil_append] at hS
 refine wpR_run 1 rfl ?_
 refine wpR_nil (QE_then_n ?_)
 refine wpC_cond rfl (fun hb_90 => ?_) (fun hb_90 => ?_)
 ·have h := if_t h hb_90
  refine wpC_seq (wpC_region (wpR_run 1 rfl ?_))
  refine wpR_nil (QE_then_n (wpC_ret (QE_then_r ?_)))
  cases h
  exact QE_ret1 rfl rfl ⟨rfl, hS.pick [] (by decide) rfl⟩
 have h := if_f h hb_90
 refine wpC_skip (QE_then_n (wpC_seq (wpC_region (wpR_run 3 rfl ?_))))
 obtain ⟨x_46, hx_46, h⟩ := obind_some h
 refine wpR_call (by kernel_rfl) rfl (c_jws_Tag _ a0 (x_1.1.take x_1.2) a2 (slV v_2 e8.sz 0 x_1.2)  (hT.now hS.fr) ((hS.ro 1 rfl).tk hk_4).rp _ hx_46) rfl ?_
 rintro _ w ⟨v_47, rfl, hS1⟩
 have hS := hS.call hS1
 simp only [List.cons_append, List.nil_append] at hS
 refine wpR_run 5 rfl ?_
 refine wpR_nil (QE_then_n (wpC_seq (wpC_seq (wpC_region (wpR_run 1 rfl ?_)))))
 refine wpR_nil (QE_then_n (wpC_block ?_))
 refine wpC_le [(0, vI a0), (1, va1), (2, vS a2), (7, slV v_2 e8.sz 0 x_1.2), (8, v_6), (10, v_9), (12, v_12), (13, vI x_11.2), (15, v_30), (17, v_47), (18, vI x_46.2), (19, vI 0)] ⟨rfl, rfl, rfl, rfl, rfl, rfl, rfl, rfl, rfl, rfl, rfl, rfl, trivial⟩ ?_
 refine loop_ind (F.law18_JwsTags_L3 a1 x_1 x_8 x_11 x_21 x_29 x_46 a0 a2) (fun (s : Int) L w => L = [(0, vI a0), (1, va1), (2, vS a2), (7, slV v_2 e8.sz 0 x_1.2), (8, v_6), (10, v_9), (12, v_12), (13, vI x_11.2), (15, v_30), (17, v_47), (18, vI x_46.2), (19, vI s)] ∧ St [] w0 w [own e8 v_2 x_1.1, twE e8 v_6 x_21 b_33, own e8 v_30 x_29, own e8 v_9 x_8.1, own e8 v_12 x_11.1, own e8 v_47 x_46.1]) ?_ 0 ⟨rfl, (hS.pick [2, 3, 1, 4, 5, 0] (by decide) rfl)⟩ h
 rintro k_89 x_49 L w q_52 hI ih_51 h hk_50
 try dsimp only at hI
 obtain ⟨rfl, hS⟩ := hI
 unfold F.law18_JwsTags_L3 at h
 refine wpC_seq (wpC_seq (wpC_region (wpR_run 2 rfl ?_)))
 refine wpR_v (OpV_len Tryd.underlying23 rfl (hS.twro hA_34 2 1 rfl rfl)) rfl ?_
 refine wpR_run 1 rfl ?_
 refine wpR_nil (QE_then_n ?_)
 refine wpC_cond rfl (fun hb_88 => ?_) (fun hb_88 => ?_)
 ·have h := if_t h hb_88
  refine wpC_skip (QE_then_n (wpC_seq (wpC_block ?_)))
  refine wpC_seq (wpC_region (wpR_run 2 rfl ?_))
  obtain ⟨x_53, hx_53, h⟩ := obind_some h
  refine wpR_v (G_ix Tryd.underlying23 ti5 rfl rfl (hS.twro hA_34 2 1 rfl rfl) hx_53) rfl ?_
  refine wpR_v (G_load Tryd.underlying5 rfl rfl (hS.twro hA_34 2 1 rfl rfl) hx_53 rfl) rfl ?_
  refine wpR_v (OpV_bin rfl rfl (b_neq8 _ x_53 119)) rfl ?_
  refine wpR_nil (QE_then_n ?_)
  refine wpC_cond rfl (fun hb_54 => ?_) (fun hb_54 => ?_)
  ·have h := if_t h hb_54
   refine wpC_seq (wpC_region (wpR_run 1 rfl ?_))
   refine wpR_nil (QE_then_n (wpC_ret (QE_blk_r ?_)))
   refine QE_then_r (QE_then_r ?_)
   have h := oinr_some h hk_50
   refine QE_blk_r ?_
   refine QE_then_r ?_
   cases h
   exact QE_ret1 rfl rfl ⟨rfl, hS.pick [] (by decide) rfl⟩
  have h := if_f h hb_54
  refine wpC_skip (QE_blk_n ?_)
  refine QE_then_n (wpC_region (wpR_run 3 rfl ?_))
  refine wpR_nil ?_
  exact QE_rnd (wpN_le _ (by exact ⟨rfl, rfl, rfl, rfl, rfl, rfl, rfl, rfl, rfl, rfl, rfl, rfl, trivial⟩) (ih_51 (wI (x_49 + 1)) _ _ ⟨rfl, hS⟩ (oinl_some h hk_50)))
 have h := if_f h hb_88
 refine wpC_exit ?_
 refine QE_then_x (QE_then_x ?_)
 have h := oinr_some h hk_50
 refine QE_blk_x ?_
 refine QE_then_n (wpC_seq ?_)
 refine seq_join (r := r) (fun (g : Bool) L w => L = [(0, vI a0), (2, vS a2), (7, slV v_2 e8.sz 0 x_1.2), (12, v_12), (17, v_47), (129, vB g)] ∧ St [] w0 w [own e8 v_2 x_1.1, own e8 v_12 x_11.1, own e8 v_47 x_46.1]) (F.law18_JwsTags_K2 x_1 a0 a2 x_11 x_46) ?_ ?_
 rotate_left
 ·intro hK_64
  refine wpC_region (wpR_run 2 rfl ?_)
  obtain ⟨x_55, hx_55, h⟩ := obind_some h
  refine wpR_call (by kernel_rfl) rfl (c_law18_same _ x_46.1 x_11.1 v_47 v_12  (hS.ro 5 rfl).rp (hS.ro 4 rfl).rp _ hx_55) rfl ?_
  rintro _ w ⟨rfl, hS1⟩
  have hS := hS.call hS1
  simp only [List.cons_append, List.nil_append] at hS
  refine wpR_run 2 rfl ?_
  cases hb_56 : (!x_55)
  case true =>
   have h := if_t h hb_56
   try simp only [hb_56]
   refine wpR_run 23 rfl ?_
   refine wpR_nil (QE_then_n ?_)
   exact wpC_le _ (by exact ⟨rfl, rfl, rfl, rfl, rfl, rfl, trivial⟩) (hK_64 true _ _ ⟨rfl, (hS.pick [0, 4, 5] (by decide) rfl)⟩ h)
  case false =>
   have h := if_f h hb_56
   try simp only [hb_56]
   refine wpR_run 5 rfl ?_
   cases hb_57 : (x_46.2 != x_11.2)
   case true =>
    have h := if_t h hb_57
    try simp only [hb_57]
    refine wpR_run 18 rfl ?_
    refine wpR_nil (QE_then_n ?_)
    exact wpC_le _ (by exact ⟨rfl, rfl, rfl, rfl, rfl, rfl, trivial⟩) (hK_64 true _ _ ⟨rfl, (hS.pick [0, 4, 5] (by decide) rfl)⟩ h)
   case false =>
    have h := if_f h hb_57
    try simp only [hb_57]
    refine wpR_run 2 rfl ?_
    obtain ⟨x_58, hx_58, h⟩ := obind_some h
    refine wpR_gcall (t := 111) rfl rfl (by kernel_rfl) rfl (c_law18_same _ x_8.1 x_11.1 v_9 v_12  (hS.ro 3 rfl).rp (hS.ro 4 rfl).rp _ hx_58) rfl ?_
    rintro _ w ⟨rfl, hS1⟩
    have hS := hS.call hS1
    simp only [List.cons_append, List.nil_append] at hS
    refine wpR_run 3 rfl ?_
    cases hb_59 : (!x_58)
    case true =>
     have h := if_t h hb_59
     try simp only [hb_59]
     refine wpR_run 12 rfl ?_
     refine wpR_nil (QE_then_n ?_)
     exact wpC_le _ (by exact ⟨rfl, rfl, rfl, rfl, rfl, rfl, trivial⟩) (hK_64 true _ _ ⟨rfl, (hS.pick [0, 4, 5] (by decide) rfl)⟩ h)
    case false =>
     have h := if_f h hb_59
     try simp only [hb_59]
     refine wpR_run 2 rfl ?_
     obtain ⟨x_60, hx_60, h⟩ := obind_some h
     refine wpR_gcall (t := 117) rfl rfl (by kernel_rfl) rfl (c_law18_still _ x_1.1 x_1.2 a1 v_2 va1  (hS.ro 0 rfl).rp hk_4 (ha1.now hS.fr).rp _ hx_60) rfl ?_
     rintro _ w ⟨rfl, hS1⟩
     have hS := hS.call hS1
     simp only [List.cons_append, List.nil_append] at hS
     refine wpR_run 3 rfl ?_
     cases hb_61 : (!x_60)
     case true =>
      have h := if_t h hb_61
      try simp only [hb_61]
      refine wpR_run 6 rfl ?_
      refine wpR_nil (QE_then_n ?_)
      exact wpC_le _ (by exact ⟨rfl, rfl, rfl, rfl, rfl, rfl, trivial⟩) (hK_64 true _ _ ⟨rfl, (hS.pick [0, 4, 5] (by decide) rfl)⟩ h)
     case false =>
      have h := if_f h hb_61
      try simp only [hb_61]
      refine wpR_run 2 rfl ?_
      refine wpR_gv (t := 123) rfl rfl (OpV_len Tryd.underlying23 rfl (hS.twro hA_34 2 1 rfl rfl)) rfl ?_
      obtain ⟨x_62, hx_62, h⟩ := obind_some h
      refine wpR_gcall (t := 123) rfl rfl (by kernel_rfl) rfl (c_law18_marked _ x_29 (x_21.length : Int) 119 120 v_30  (hS.ro 2 rfl).rp _ hx_62) rfl ?_
      rintro _ w ⟨rfl, hS1⟩
      have hS := hS.call hS1
      simp only [List.cons_append, List.nil_append] at hS
      refine wpR_run 2 rfl ?_
      refine wpR_nil (QE_then_n ?_)
      exact wpC_le _ (by exact ⟨rfl, rfl, rfl, rfl, rfl, rfl, trivial⟩) (hK_64 (!x_62) _ _ ⟨rfl, (hS.pick [0, 4, 5] (by decide) rfl)⟩ h)
 rintro x_63 L w hJ h
 try dsimp only at hJ
 obtain ⟨rfl, hS⟩ := hJ
 unfold F.law18_JwsTags_K2 at h
 refine wpC_cond rfl (fun hb_87 => ?_) (fun hb_87 => ?_)
 ·have h := if_t h hb_87
  refine wpC_seq (wpC_region (wpR_run 1 rfl ?_))
  refine wpR_nil (QE_then_n (wpC_ret (QE_then_r ?_)))
  cases h
  exact QE_ret1 rfl rfl ⟨rfl, hS.pick [] (by decide) rfl⟩
 have h := if_f h hb_87
 refine wpC_skip (QE_then_n ?_)
 refine seq_join (r := r) (fun (g : List UInt8) L w => L = [(0, vI a0), (2, vS a2), (7, slV v_2 e8.sz 0 x_1.2), (12, v_12), (17, v_47)] ∧ x_1.2 ≤ g.length ∧ St [] w0 w [own e8 v_2 g, own e8 v_12 x_11.1, own e8 v_47 x_46.1]) (F.law18_JwsTags_K3 a0 a2 x_1 x_11 x_46) ?_ ?_
 rotate_left
 ·intro hK_71
  refine wpC_seq (wpC_region (wpR_run 1 rfl ?_))
  refine wpR_v (OpV_len Tryd.underlying23 rfl ((hS.ro 0 rfl).tk hk_4)) rfl ?_
  refine wpR_run 1 rfl ?_
  refine wpR_nil (QE_then_n ?_)
  refine wpC_cond rfl (fun hb_68 => ?_) (fun hb_68 => ?_)
  ·have h := if_t h hb_68
   refine wpC_region (wpR_run 2 rfl ?_)
   refine wpR_v (OpV_len Tryd.underlying23 rfl ((hS.ro 0 rfl).tk hk_4)) rfl ?_
   refine wpR_run 3 rfl ?_
   refine wpR_v (OpV_len Tryd.underlying23 rfl ((hS.ro 0 rfl).tk hk_4)) rfl ?_
   refine wpR_run 1 rfl ?_
   obtain ⟨x_65, hx_65, h⟩ := obind_some h
   refine wpR_v (G_ix_room Tryd.underlying23 ti5 rfl rfl (hS.ro 0 rfl) hk_4 hx_65) rfl ?_
   refine wpR_v (G_load Tryd.underlying5 rfl rfl (hS.ro 0 rfl) (getO_take hx_65) rfl) rfl ?_
   refine wpR_v (OpV_bin rfl rfl (b_xor8 _ x_65 8)) rfl ?_
   obtain ⟨x_66, hx_66, h⟩ := obind_some h
   refine wpR_v (G_ix_room Tryd.underlying23 ti5 rfl rfl (hS.ro 0 rfl) hk_4 hx_66) rfl ?_
   refine wpR_y (G_storeE (t := (x_65 ^^^ 8)) ti5 rfl rfl hS (i := 0) rfl (getO_take hx_66) rfl) ?_
   intro w hS
   obtain ⟨x_67, hx_67, h⟩ := olet_some h
   rw [hx_67] at hS
   refine wpR_nil (QE_then_n ?_)
   exact wpC_le _ (by exact ⟨rfl, rfl, rfl, rfl, rfl, trivial⟩) (hK_71 x_67 _ _ ⟨rfl, (by rw [← hx_67, List.length_set]; exact hk_4), hS⟩ h)
  have h := if_f h hb_68
  refine wpC_skip (QE_then_n ?_)
  exact wpC_le _ (by exact ⟨rfl, rfl, rfl, rfl, rfl, trivial⟩) (hK_71 x_1.1 _ _ ⟨rfl, hk_4, hS⟩ h)
 rintro x_69 L w hJ h
 try dsimp only at hJ
 obtain ⟨rfl, hK_70, hS⟩ := hJ
 unfold F.law18_JwsTags_K3 at h
 refine wpC_seq (wpC_region (wpR_run 1 rfl ?_))
 refine wpR_nil (QE_then_n (wpC_seq (wpC_region (wpR_run 2 rfl ?_))))
 obtain ⟨x_72, hx_72, h⟩ := obind_some h
 refine wpR_x (G_append0 Tryd.underlying23 ti5 rfl rfl rfl hS ((hS.ro 0 rfl).tk hK_70) hx_72) rfl ?_
 rintro v_73 w hS
 refine wpR_run 1 rfl ?_
 refine wpR_nil (QE_then_n (wpC_seq (wpC_region (wpR_run 3 rfl ?_))))
 obtain ⟨x_75, hx_75, h⟩ := obind_some h
 refine wpR_call (by kernel_rfl) rfl (c_jws_Tag _ a0 (x_69.take x_1.2) a2 (slV v_2 e8.sz 0 x_1.2)  (hT.now hS.fr) ((hS.ro 1 rfl).tk hK_70).rp _ hx_75) rfl ?_
 rintro _ w ⟨v_76, rfl, hS1⟩
 have hS := hS.call hS1
 simp only [List.cons_append, List.nil_append] at hS
 refine wpR_run 5 rfl ?_
 refine wpR_nil (QE_then_n (wpC_seq (wpC_region (wpR_run 3 rfl ?_))))
 obtain ⟨x_78, hx_78, h⟩ := obind_some h
 refine wpR_call (by kernel_rfl) rfl (c_ref18_Tag _ a0 x_72 a2 v_73  (hT.now hS.fr) (hS.ro 1 rfl).rp _ hx_78) rfl ?_
 rintro _ w ⟨v_79, rfl, hS1⟩
 have hS := hS.call hS1
 simp only [List.cons_append, List.nil_append] at hS
 refine wpR_run 5 rfl ?_
 refine wpR_nil (QE_then_n (wpC_seq (wpC_region (wpR_run 2 rfl ?_))))
 obtain ⟨x_81, hx_81, h⟩ := obind_some h
 refine wpR_call (by kernel_rfl) rfl (c_law18_same _ x_75.1 x_78.1 v_76 v_79  (hS.ro 1 rfl).rp (hS.ro 0 rfl).rp _ hx_81) rfl ?_
 rintro _ w ⟨rfl, hS1⟩
 have hS := hS.call hS1
 simp only [List.cons_append, List.nil_append] at hS
 refine wpR_run 1 rfl ?_
 cases hb_82 : x_81
 case true =>
  have h := if_t h hb_82
  try simp only [hb_82]
  refine wpR_run 5 rfl ?_
  cases hb_83 : (x_75.2 == x_78.2)
  case true =>
   have h := if_t h hb_83
   try simp only [hb_83]
   refine wpR_run 2 rfl ?_
   obtain ⟨x_84, hx_84, h⟩ := obind_some h
   refine wpR_gcall (t := 170) rfl rfl (by kernel_rfl) rfl (c_law18_same _ x_46.1 x_11.1 v_47 v_12  (hS.ro 5 rfl).rp (hS.ro 4 rfl).rp _ hx_84) rfl ?_
   rintro _ w ⟨rfl, hS1⟩
   have hS := hS.call hS1
   simp only [List.cons_append, List.nil_append] at hS
   refine wpR_run 2 rfl ?_
   cases hb_85 : x_84
   case true =>
    have h := if_t h hb_85
    try simp only [hb_85]
    refine wpR_run 2 rfl ?_
    obtain ⟨x_86, hx_86, h⟩ := obind_some h
    refine wpR_gcall (t := 175) rfl rfl (by kernel_rfl) rfl (c_law18_still _ x_69 x_1.2 x_72 v_2 v_73  (hS.ro 3 rfl).rp hK_70 (hS.ro 2 rfl).rp _ hx_86) rfl ?_
    rintro _ w ⟨rfl, hS1⟩
    have hS := hS.call hS1
    simp only [List.cons_append, List.nil_append] at hS
    refine wpR_run 2 rfl ?_
    refine wpR_nil (QE_then_n (wpC_ret ?_))
    cases h
    exact QE_ret1 rfl rfl ⟨rfl, hS.pick [] (by decide) rfl⟩
   case false =>
    have h := if_f h hb_85
    try simp only [hb_85]
    refine wpR_run 5 rfl ?_
    refine wpR_nil (QE_then_n (wpC_ret ?_))
    cases h
    exact QE_ret1 rfl rfl ⟨rfl, hS.pick [] (by decide) rfl⟩
  case false =>
   have h := if_f h hb_83
   try simp only [hb_83]
   refine wpR_run 10 rfl ?_
   refine wpR_nil (QE_then_n (wpC_ret ?_))
   cases h
   exact QE_ret1 rfl rfl ⟨rfl, hS.pick [] (by decide) rfl⟩
 case false =>
  have h := if_f h hb_82
  try simp only [hb_82]
  refine wpR_run 15 rfl ?_
  refine wpR_nil (QE_then_n (wpC_ret ?_))
  cases h
  exact QE_ret1 rfl rfl ⟨rfl, hS.pick [] (by decide) rfl⟩
end Go.Proofs
