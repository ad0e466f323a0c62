import Derived.Test.YtgjpaedgcpjigaaDoorYW0
import Derived.Test.YtgjpaedgcpjigaaDoorGkFlaw31
import Derived.Test.YtgjpaedgcpjigaaDoorYWcoseb
import Derived.Test.YtgjpaedgcpjigaaDoorYWref31b
set_option linter.unusedVariables false
set_option linter.unusedSimpArgs false
set_option linter.unusedVariables false
set_option maxRecDepth 4000
namespace Go.Proofs
open Go Go.RowKit Go.Gk
theorem c_law31_roomy (w0 : World) (a0 : List UInt8) (va0 : Value) (ha0 : RP [] w0 e8 va0 a0) (r : (List UInt8 × Nat))
  (h : F.law31_roomy a0 = some r) : Calls Tryd.prog 8 #[va0] w0 (Ret fun v w => ∃ u0 : Value, v = slV u0 e8.sz 0 r.2 ∧ r.2 ≤ r.1.length ∧ St [] w0 w [own e8 u0 r.1]) := by
 refine calls_at 19 Tryd.func8 rfl rfl rfl ?_
 have hS := St.start w0
 refine wpC_le [(0, va0)] ⟨rfl, trivial⟩ ?_
 unfold F.law31_roomy at h
 refine wpC_seq (wpC_region (wpR_v (OpV_assign rfl) rfl (wpR_nil (QE_then_n (wpC_seq (wpC_region ?_))))))
 refine wpR_v (OpV_assign rfl) rfl (wpR_nil (QE_then_n (wpC_seq (wpC_region (wpR_v (OpV_move rfl) rfl (wpR_v (OpV_move rfl) rfl ?_))))))
 obtain ⟨x_1, hx_1, h⟩ := obind_some h
 refine wpR_x (G_append0 Tryd.underlying22 ti5 rfl rfl rfl hS (ha0.now hS.fr) hx_1) rfl ?_
 rintro v_2 w hS
 refine wpR_v (OpV_assign rfl) rfl (wpR_nil (QE_then_n (wpC_seq (wpC_seq (wpC_region (wpR_v (OpV_assign rfl) rfl ?_))))))
 refine wpR_nil (QE_then_n (wpC_block ?_))
 refine wpC_le [(0, va0), (3, v_2), (4, vI 0)] ⟨rfl, rfl, rfl, trivial⟩ ?_
 refine loop_ind (F.law31_roomy_L1 a0) (fun (s : List UInt8 × Int) L w => ∃ (v_5 : Value), L = [(0, va0), (3, v_5), (4, vI s.2)] ∧ St [] w0 w [own e8 v_5 s.1]) ?_ (x_1, 0) ⟨v_2, rfl, hS⟩ h
 rintro k_18 ⟨x_4, x_7⟩ L w q_10 hI ih_9 h hk_8
 try dsimp only at hI
 obtain ⟨v_5, rfl, hS⟩ := hI
 unfold F.law31_roomy_L1 at h
 refine wpC_seq (wpC_seq (wpC_region (wpR_v (OpV_move rfl) rfl (wpR_v (OpV_bin rfl rfl (b_ilss _ x_7 9)) rfl ?_))))
 refine wpR_nil (QE_then_n ?_)
 refine wpC_cond rfl (fun hb_17 => ?_) (fun hb_17 => ?_)
 ·have h := if_t h hb_17
  refine wpC_skip (QE_then_n (wpC_seq (wpC_block ?_)))
  refine wpC_region (wpR_v (OpV_move rfl) rfl ?_)
  refine wpR_x (OpX_lit (e := e8) (l := [165]) (vs := [v8 165]) Tryd.underlying22 ti5 rfl rfl rfl rfl (by decide) (by decide) hS) rfl ?_
  rintro v_11 w hS
  obtain ⟨x_13, hx_13, h⟩ := obind_some h
  refine wpR_x (G_append Tryd.underlying22 ti5 rfl rfl rfl hS (i := 1) rfl (hS.ro 0 rfl) hx_13) rfl ?_
  rintro v_14 w hS
  refine wpR_v (OpV_assign rfl) rfl (wpR_nil (QE_blk_n ?_))
  refine QE_then_n (wpC_region (wpR_v (OpV_move rfl) rfl (wpR_v (OpV_bin rfl rfl (b_iadd _ x_7 1)) rfl ?_)))
  refine wpR_v (OpV_assign rfl) rfl (wpR_nil ?_)
  exact QE_rnd (wpN_le _ (by exact ⟨rfl, rfl, rfl, trivial⟩) (ih_9 (x_13, wI (x_7 + 1)) _ _ ⟨v_14, rfl, (hS.pick [1] (by decide) rfl)⟩ (oinl_some h hk_8)))
 ·have h := if_f h hb_17
  refine wpC_exit ?_
  refine QE_then_x (QE_then_x ?_)
  have h := oinr_some h hk_8
  refine QE_blk_x ?_
  refine QE_then_n (wpC_seq (wpC_region (wpR_v (OpV_move rfl) rfl (wpR_v (OpV_move rfl) rfl (wpR_v (OpV_len Tryd.underlying22 rfl (ha0.now hS.fr)) rfl ?_)))))
  obtain ⟨hg_16, h⟩ := grd_some h
  refine wpR_v (G_slh Tryd.underlying22 ti5 rfl rfl (hS.ro 0 rfl) (tkO_of hg_16)) rfl ?_
  refine wpR_v (OpV_assign rfl) rfl (wpR_nil (QE_then_n (wpC_ret ?_)))
  cases h
  exact QE_ret1 rfl rfl ⟨v_5, rfl, hg_16.2, hS.pick [0] (by decide) rfl⟩
theorem c_law31_same (w0 : World) (a0 : List UInt8) (a1 : List UInt8) (va0 : Value) (va1 : Value) (ha0 : RP [] w0 e8 va0 a0) (ha1 : RP [] w0 e8 va1 a1) (r : Bool)
  (h : F.law31_same a0 a1 = some r) : Calls Tryd.prog 22 #[va0, va1] w0 (Ret fun v w => v = vB r ∧ St [] w0 w []) := by
 refine calls_at 26 Tryd.func22 rfl rfl rfl ?_
 have hS := St.start w0
 refine wpC_le [(0, va0), (1, va1)] ⟨rfl, rfl, trivial⟩ ?_
 unfold F.law31_same at h
 refine wpC_seq (wpC_region (wpR_v (OpV_assign rfl) rfl (wpR_nil (QE_then_n (wpC_seq (wpC_seq ?_))))))
 refine wpC_region (wpR_v (OpV_move rfl) rfl (wpR_v (OpV_len Tryd.underlying22 rfl (ha0.now hS.fr)) rfl ?_))
 refine wpR_v (OpV_move rfl) rfl (wpR_v (OpV_len Tryd.underlying22 rfl (ha1.now hS.fr)) rfl ?_)
 refine wpR_v (OpV_bin rfl rfl (b_ineq _ (a0.length : Int) (a1.length : Int))) rfl ?_
 refine wpR_nil (QE_then_n ?_)
 refine wpC_cond rfl (fun hb_10 => ?_) (fun hb_10 => ?_)
 ·have h := if_t h hb_10
  refine wpC_seq (wpC_region (wpR_v (OpV_assign rfl) rfl (wpR_nil (QE_then_n (wpC_ret (QE_then_r ?_))))))
  cases h
  exact QE_ret1 rfl rfl ⟨rfl, hS⟩
 ·have h := if_f h hb_10
  refine wpC_skip (QE_then_n (wpC_seq (wpC_seq (wpC_region (wpR_v (OpV_assign rfl) rfl (wpR_nil ?_))))))
  refine QE_then_n (wpC_block ?_)
  refine wpC_le [(0, va0), (1, va1), (5, vI 0)] ⟨rfl, rfl, rfl, trivial⟩ ?_
  refine loop_ind (F.law31_same_L1 a0 a1) (fun (s : Int) L w => L = [(0, va0), (1, va1), (5, vI s)] ∧ St [] w0 w []) ?_ 0 ⟨rfl, hS⟩ h
  rintro k_9 x_1 L w q_4 hI ih_3 h hk_2
  try dsimp only at hI
  obtain ⟨rfl, hS⟩ := hI
  unfold F.law31_same_L1 at h
  refine wpC_seq (wpC_seq (wpC_region (wpR_v (OpV_move rfl) rfl (wpR_v (OpV_move rfl) rfl (wpR_v (OpV_len Tryd.underlying22 rfl (ha0.now hS.fr)) rfl ?_)))))
  refine wpR_v (OpV_bin rfl rfl (b_ilss _ x_1 (a0.length : Int))) rfl ?_
  refine wpR_nil (QE_then_n ?_)
  refine wpC_cond rfl (fun hb_8 => ?_) (fun hb_8 => ?_)
  ·have h := if_t h hb_8
   refine wpC_skip (QE_then_n (wpC_seq (wpC_block ?_)))
   refine wpC_seq ?_
   refine wpC_regionT (fun w' => St [] w0 w' []) (fun _ => true) hmix (fun _ _ _ hf => hf.2) (fun _ _ hf => hf) (by kernel_rfl) ?_
   have hS := hS.drew
   show lxE _ _ _ _ _ _ _ [0, 1, 2, 3, 4, 5, 6, 7, 8] _ _
   refine lxE_v hS rfl rfl (fun w hF => OpV_move rfl) rfl ?_
   refine lxE_v hS rfl rfl (fun w hF => OpV_move rfl) rfl ?_
   obtain ⟨x_5, hx_5, h⟩ := obind_some h
   refine lxE_v hS rfl rfl (fun w hF => G_ix Tryd.underlying22 ti5 rfl rfl (ha0.now hF.fr) hx_5) rfl ?_
   refine lxE_v hS rfl rfl (fun w hF => G_load Tryd.underlying5 rfl rfl (ha0.now hF.fr) hx_5 rfl) rfl ?_
   refine lxE_v hS rfl rfl (fun w hF => OpV_move rfl) rfl ?_
   refine lxE_v hS rfl rfl (fun w hF => OpV_move rfl) rfl ?_
   obtain ⟨x_6, hx_6, h⟩ := obind_some h
   refine lxE_v hS rfl rfl (fun w hF => G_ix Tryd.underlying22 ti5 rfl rfl (ha1.now hF.fr) hx_6) rfl ?_
   refine lxE_v hS rfl rfl (fun w hF => G_load Tryd.underlying5 rfl rfl (ha1.now hF.fr) hx_6 rfl) rfl ?_
   refine lxE_v hS rfl rfl (fun w hF => OpV_bin rfl rfl (b_neq8 _ x_5 x_6)) rfl ?_
   refine lxE_nil hS ?_
   refine QE_then_n ?_
   refine wpC_cond rfl (fun hb_7 => ?_) (fun hb_7 => ?_)
   ·have h := if_t h hb_7
    refine wpC_seq (wpC_region (wpR_v (OpV_assign rfl) rfl (wpR_nil (QE_then_n (wpC_ret (QE_blk_r ?_))))))
    refine QE_then_r (QE_then_r ?_)
    have h := oinr_some h hk_2
    refine QE_blk_r ?_
    refine QE_then_r ?_
    cases h
    exact QE_ret1 rfl rfl ⟨rfl, hS⟩
   ·have h := if_f h hb_7
    refine wpC_skip (QE_blk_n ?_)
    refine QE_then_n (wpC_region (wpR_v (OpV_move rfl) rfl (wpR_v (OpV_bin rfl rfl (b_iadd _ x_1 1)) rfl ?_)))
    refine wpR_v (OpV_assign rfl) rfl (wpR_nil ?_)
    exact QE_rnd (wpN_le _ (by exact ⟨rfl, rfl, rfl, trivial⟩) (ih_3 (wI (x_1 + 1)) _ _ ⟨rfl, hS⟩ (oinl_some h hk_2)))
  ·have h := if_f h hb_8
   refine wpC_exit ?_
   refine QE_then_x (QE_then_x ?_)
   have h := oinr_some h hk_2
   refine QE_blk_x ?_
   refine QE_then_n (wpC_seq (wpC_region (wpR_v (OpV_assign rfl) rfl (wpR_nil (QE_then_n (wpC_ret ?_))))))
   cases h
   exact QE_ret1 rfl rfl ⟨rfl, hS⟩
theorem c_law31_spared (w0 : World) (a0 : List UInt8) (k0 : Nat) (a1 : List UInt8) (va0 : Value) (va1 : Value) (ha0 : RP [] w0 e8 va0 a0) (hk0 : k0 ≤ a0.length) (ha1 : RP [] w0 e8 va1 a1) (r : Bool)
  (h : F.law31_spared a0 k0 a1 = some r) : Calls Tryd.prog 12 #[slV va0 e8.sz 0 k0, va1] w0 (Ret fun v w => v = vB r ∧ St [] w0 w []) := by
 refine calls_at 28 Tryd.func12 rfl rfl rfl ?_
 have hS := St.start w0
 refine wpC_le [(0, slV va0 e8.sz 0 k0), (1, va1)] ⟨rfl, rfl, trivial⟩ ?_
 unfold F.law31_spared at h
 refine wpC_seq (wpC_region (wpR_v (OpV_assign rfl) rfl (wpR_nil (QE_then_n (wpC_seq (wpC_region ?_))))))
 refine wpR_v (OpV_move rfl) rfl (wpR_v (OpV_move rfl) rfl (wpR_v (OpV_len Tryd.underlying22 rfl (ha1.now hS.fr)) rfl ?_))
 refine wpR_v (OpV_bin rfl rfl (b_iadd _ (a1.length : Int) 9)) rfl ?_
 obtain ⟨hg_1, h⟩ := grd_some h
 refine wpR_v (G_slh_room Tryd.underlying22 ti5 rfl rfl (ha0.now hS.fr) (tkO_of hg_1)) rfl ?_
 refine wpR_v (OpV_assign rfl) rfl (wpR_nil (QE_then_n (wpC_seq (wpC_seq (wpC_region (wpR_v (OpV_move rfl) rfl ?_))))))
 refine wpR_v (OpV_len Tryd.underlying22 rfl (ha1.now hS.fr)) rfl ?_
 refine wpR_v (OpV_assign rfl) rfl (wpR_nil (QE_then_n (wpC_block ?_)))
 refine wpC_le [(0, slV va0 e8.sz 0 k0), (1, va1), (5, slV va0 e8.sz 0 ((wI ((a1.length : Int) + 9) : Int).toNat)), (6, vI (a1.length : Int))] ⟨rfl, rfl, rfl, rfl, trivial⟩ ?_
 refine loop_ind (F.law31_spared_L1 a0 k0 a1) (fun (s : Int) L w => L = [(0, slV va0 e8.sz 0 k0), (1, va1), (5, slV va0 e8.sz 0 ((wI ((a1.length : Int) + 9) : Int).toNat)), (6, vI s)] ∧ St [] w0 w []) ?_ (a1.length : Int) ⟨rfl, hS⟩ h
 rintro k_10 x_2 L w q_5 hI ih_4 h hk_3
 try dsimp only at hI
 obtain ⟨rfl, hS⟩ := hI
 unfold F.law31_spared_L1 at h
 refine wpC_seq (wpC_seq (wpC_region (wpR_v (OpV_move rfl) rfl (wpR_v (OpV_move rfl) rfl (wpR_v (OpV_len Tryd.underlying22 rfl ((ha0.now hS.fr).tk hg_1.2)) rfl ?_)))))
 refine wpR_v (OpV_bin rfl rfl (b_ilss _ x_2 ((a0.take ((wI ((a1.length : Int) + 9) : Int).toNat)).length : Int))) rfl ?_
 refine wpR_nil (QE_then_n ?_)
 refine wpC_cond rfl (fun hb_9 => ?_) (fun hb_9 => ?_)
 ·have h := if_t h hb_9
  refine wpC_skip (QE_then_n (wpC_seq (wpC_block ?_)))
  refine wpC_seq (wpC_region (wpR_v (OpV_move rfl) rfl (wpR_v (OpV_move rfl) rfl ?_)))
  obtain ⟨x_6, hx_6, h⟩ := obind_some h
  refine wpR_v (G_ix_room Tryd.underlying22 ti5 rfl rfl (ha0.now hS.fr) hg_1.2 hx_6) rfl ?_
  refine wpR_v (G_load Tryd.underlying5 rfl rfl (ha0.now hS.fr) (getO_take hx_6) rfl) rfl ?_
  refine wpR_v (OpV_bin rfl rfl (b_neq8 _ x_6 165)) rfl ?_
  refine wpR_nil (QE_then_n ?_)
  refine wpC_cond rfl (fun hb_7 => ?_) (fun hb_7 => ?_)
  ·have h := if_t h hb_7
   refine wpC_seq (wpC_region (wpR_v (OpV_assign rfl) rfl (wpR_nil (QE_then_n (wpC_ret (QE_blk_r ?_))))))
   refine QE_then_r (QE_then_r ?_)
   have h := oinr_some h hk_3
   refine QE_blk_r ?_
   refine QE_then_r ?_
   cases h
   exact QE_ret1 rfl rfl ⟨rfl, hS⟩
  ·have h := if_f h hb_7
   refine wpC_skip (QE_blk_n ?_)
   refine QE_then_n (wpC_region (wpR_v (OpV_move rfl) rfl (wpR_v (OpV_bin rfl rfl (b_iadd _ x_2 1)) rfl ?_)))
   refine wpR_v (OpV_assign rfl) rfl (wpR_nil ?_)
   exact QE_rnd (wpN_le _ (by exact ⟨rfl, rfl, rfl, rfl, trivial⟩) (ih_4 (wI (x_2 + 1)) _ _ ⟨rfl, hS⟩ (oinl_some h hk_3)))
 ·have h := if_f h hb_9
  refine wpC_exit ?_
  refine QE_then_x (QE_then_x ?_)
  have h := oinr_some h hk_3
  refine QE_blk_x ?_
  refine QE_then_n (wpC_seq (wpC_region (wpR_v (OpV_move rfl) rfl (wpR_v (OpV_move rfl) rfl ?_))))
  obtain ⟨x_8, hx_8, h⟩ := obind_some h
  refine wpR_call (by kernel_rfl) rfl (c_law31_same _ (a0.take k0) a1 (slV va0 e8.sz 0 k0) va1  ((ha0.now hS.fr).tk hk0).rp (ha1.now hS.fr).rp _ hx_8) rfl ?_
  rintro _ w ⟨rfl, hS1⟩
  have hS := hS.call hS1
  simp only [List.cons_append, List.nil_append] at hS
  refine wpR_v (OpV_assign rfl) rfl (wpR_nil (QE_then_n (wpC_ret ?_)))
  cases h
  exact QE_ret1 rfl rfl ⟨rfl, hS⟩
theorem c_law31_parses (w0 : World) (a0 : List UInt8) (a1 : List UInt8) (va0 : Value) (va1 : Value) (hT : TB [] w0) (ha0 : RP [] w0 e8 va0 a0) (ha1 : RP [] w0 e8 va1 a1) (r : Bool)
  (h : F.law31_parses a0 a1 = some r) : Calls Tryd.prog 13 #[va0, va1] w0 (Ret fun v w => v = vB r ∧ St [] w0 w []) := by
 refine calls_at 65 Tryd.func13 rfl rfl rfl ?_
 have hS := St.start w0
 refine wpC_le [(0, va0), (1, va1)] ⟨rfl, rfl, trivial⟩ ?_
 unfold F.law31_parses at h
 refine wpC_seq (wpC_region (wpR_v (OpV_assign rfl) rfl (wpR_nil (QE_then_n (wpC_seq (wpC_region ?_))))))
 refine wpR_v (OpV_move rfl) rfl (wpR_v (OpV_move rfl) rfl ?_)
 obtain ⟨x_1, hx_1, h⟩ := obind_some h
 refine wpR_call (by kernel_rfl) rfl (c_ref31_Parse _ a0 a1 va0 va1  (ha0.now hS.fr).rp (ha1.now hS.fr).rp _ hx_1) rfl ?_
 rintro _ w ⟨v_2, v_4, v_6, v_8, rfl, hS1⟩
 have hS := hS.call hS1
 simp only [List.cons_append, List.nil_append] at hS
 refine wpR_v (OpV_move rfl) rfl (wpR_v (OpV_extract rfl rfl) rfl ?_)
 refine wpR_v (OpV_extract rfl rfl) rfl ?_
 refine wpR_v (OpV_extract rfl rfl) rfl ?_
 refine wpR_v (OpV_extract rfl rfl) rfl ?_
 refine wpR_v (OpV_extract rfl rfl) rfl ?_
 refine wpR_v (OpV_extract rfl rfl) rfl ?_
 refine wpR_v (OpV_assign rfl) rfl (wpR_v (OpV_assign rfl) rfl (wpR_v (OpV_assign rfl) rfl (wpR_v (OpV_assign rfl) rfl (wpR_v (OpV_assign rfl) rfl (wpR_v (OpV_assign rfl) rfl (wpR_nil ?_))))))
 refine QE_then_n (wpC_seq (wpC_region (wpR_v (OpV_move rfl) rfl (wpR_v (OpV_move rfl) rfl ?_))))
 obtain ⟨x_10, hx_10, h⟩ := obind_some h
 refine wpR_call (by kernel_rfl) rfl (c_cose_Parse _ a0 a1 va0 va1  (hT.now hS.fr) (ha0.now hS.fr).rp (ha1.now hS.fr).rp _ hx_10) rfl ?_
 rintro _ w ⟨v_11, v_13, v_15, v_17, rfl, hS1⟩
 have hS := hS.call hS1
 simp only [List.cons_append, List.nil_append] at hS
 refine wpR_v (OpV_move rfl) rfl (wpR_v (OpV_extract rfl rfl) rfl ?_)
 refine wpR_v (OpV_extract rfl rfl) rfl ?_
 refine wpR_v (OpV_extract rfl rfl) rfl ?_
 refine wpR_v (OpV_extract rfl rfl) rfl ?_
 refine wpR_v (OpV_extract rfl rfl) rfl ?_
 refine wpR_v (OpV_extract rfl rfl) rfl ?_
 refine wpR_v (OpV_assign rfl) rfl (wpR_v (OpV_assign rfl) rfl (wpR_v (OpV_assign rfl) rfl (wpR_v (OpV_assign rfl) rfl (wpR_v (OpV_assign rfl) rfl (wpR_v (OpV_assign rfl) rfl (wpR_nil ?_))))))
 refine QE_then_n (wpC_seq (wpC_region (wpR_v (OpV_move rfl) rfl (wpR_v (OpV_move rfl) rfl (wpR_v (OpV_bin rfl rfl (b_ieql _ x_10.1 x_1.1)) rfl ?_)))))
 refine wpR_v (OpV_move rfl) rfl ?_
 cases hb_19 : (x_10.1 == x_1.1)
 case true =>
  have h := if_t h hb_19
  try simp only [hb_19]
  refine wpR_gv (t := 40) rfl rfl (OpV_move rfl) rfl ?_
  refine wpR_gv (t := 40) rfl rfl (OpV_move rfl) rfl ?_
  obtain ⟨x_20, hx_20, h⟩ := obind_some h
  refine wpR_gcall (t := 40) rfl rfl (by kernel_rfl) rfl (c_law31_same _ x_10.2.1 x_1.2.1 v_11 v_2  (hS.rro 0 rfl).rp (hS.rro 4 rfl).rp _ hx_20) rfl ?_
  rintro _ w ⟨rfl, hS1⟩
  have hS := hS.call hS1
  simp only [List.cons_append, List.nil_append] at hS
  refine wpR_v (OpV_pickT rfl rfl) rfl (wpR_v (OpV_move rfl) rfl ?_)
  cases hb_21 : x_20
  case true =>
   have h := if_t h hb_21
   try simp only [hb_21]
   refine wpR_gv (t := 45) rfl rfl (OpV_move rfl) rfl ?_
   refine wpR_gv (t := 45) rfl rfl (OpV_move rfl) rfl ?_
   obtain ⟨x_22, hx_22, h⟩ := obind_some h
   refine wpR_gcall (t := 45) rfl rfl (by kernel_rfl) rfl (c_law31_same _ x_10.2.2.1 x_1.2.2.1 v_13 v_4  (hS.rro 1 rfl).rp (hS.rro 5 rfl).rp _ hx_22) rfl ?_
   rintro _ w ⟨rfl, hS1⟩
   have hS := hS.call hS1
   simp only [List.cons_append, List.nil_append] at hS
   refine wpR_v (OpV_pickT rfl rfl) rfl (wpR_v (OpV_move rfl) rfl ?_)
   cases hb_23 : x_22
   case true =>
    have h := if_t h hb_23
    try simp only [hb_23]
    refine wpR_gv (t := 50) rfl rfl (OpV_move rfl) rfl ?_
    refine wpR_gv (t := 50) rfl rfl (OpV_move rfl) rfl ?_
    obtain ⟨x_24, hx_24, h⟩ := obind_some h
    refine wpR_gcall (t := 50) rfl rfl (by kernel_rfl) rfl (c_law31_same _ x_10.2.2.2.1 x_1.2.2.2.1 v_15 v_6  (hS.rro 2 rfl).rp (hS.rro 6 rfl).rp _ hx_24) rfl ?_
    rintro _ w ⟨rfl, hS1⟩
    have hS := hS.call hS1
    simp only [List.cons_append, List.nil_append] at hS
    refine wpR_v (OpV_pickT rfl rfl) rfl (wpR_v (OpV_move rfl) rfl ?_)
    cases hb_25 : x_24
    case true =>
     have h := if_t h hb_25
     try simp only [hb_25]
     refine wpR_gv (t := 55) rfl rfl (OpV_move rfl) rfl ?_
     refine wpR_gv (t := 55) rfl rfl (OpV_move rfl) rfl ?_
     obtain ⟨x_26, hx_26, h⟩ := obind_some h
     refine wpR_gcall (t := 55) rfl rfl (by kernel_rfl) rfl (c_law31_same _ x_10.2.2.2.2.1 x_1.2.2.2.2.1 v_17 v_8  (hS.ro 3 rfl).rp (hS.rro 7 rfl).rp _ hx_26) rfl ?_
     rintro _ w ⟨rfl, hS1⟩
     have hS := hS.call hS1
     simp only [List.cons_append, List.nil_append] at hS
     refine wpR_v (OpV_pickT rfl rfl) rfl (wpR_v (OpV_move rfl) rfl ?_)
     cases hb_27 : x_26
     case true =>
      have h := if_t h hb_27
      try simp only [hb_27]
      refine wpR_gv (t := 60) rfl rfl (OpV_move rfl) rfl ?_
      refine wpR_gv (t := 60) rfl rfl (OpV_move rfl) rfl ?_
      refine wpR_gv (t := 60) rfl rfl (OpV_bin rfl rfl (b_ieql _ x_10.2.2.2.2.2 x_1.2.2.2.2.2)) rfl ?_
      refine wpR_v (OpV_pickT rfl rfl) rfl (wpR_v (OpV_assign rfl) rfl (wpR_nil (QE_then_n (wpC_ret ?_))))
      cases h
      exact QE_ret1 rfl rfl ⟨rfl, hS.pick [] (by decide) rfl⟩
     case false =>
      have h := if_f h hb_27
      try simp only [hb_27]
      refine wpR_gskip (b := false) (t := 60) rfl rfl rfl rfl ?_
      refine wpR_gskip (b := false) (t := 60) rfl rfl rfl rfl ?_
      refine wpR_gskip (b := false) (t := 60) rfl rfl rfl rfl ?_
      refine wpR_v (OpV_pickF rfl rfl) rfl (wpR_v (OpV_assign rfl) rfl (wpR_nil (QE_then_n (wpC_ret ?_))))
      cases h
      exact QE_ret1 rfl rfl ⟨rfl, hS.pick [] (by decide) rfl⟩
    case false =>
     have h := if_f h hb_25
     try simp only [hb_25]
     refine wpR_gskip (b := false) (t := 55) rfl rfl rfl rfl ?_
     refine wpR_gskip (b := false) (t := 55) rfl rfl rfl rfl ?_
     refine wpR_gskip (b := false) (t := 55) rfl rfl rfl rfl ?_
     refine wpR_v (OpV_pickF rfl rfl) rfl (wpR_v (OpV_move rfl) rfl (wpR_gskip (b := false) (t := 60) rfl rfl rfl rfl ?_))
     refine wpR_gskip (b := false) (t := 60) rfl rfl rfl rfl ?_
     refine wpR_gskip (b := false) (t := 60) rfl rfl rfl rfl ?_
     refine wpR_v (OpV_pickF rfl rfl) rfl (wpR_v (OpV_assign rfl) rfl (wpR_nil (QE_then_n (wpC_ret ?_))))
     cases h
     exact QE_ret1 rfl rfl ⟨rfl, hS.pick [] (by decide) rfl⟩
   case false =>
    have h := if_f h hb_23
    try simp only [hb_23]
    refine wpR_gskip (b := false) (t := 50) rfl rfl rfl rfl ?_
    refine wpR_gskip (b := false) (t := 50) rfl rfl rfl rfl ?_
    refine wpR_gskip (b := false) (t := 50) rfl rfl rfl rfl ?_
    refine wpR_v (OpV_pickF rfl rfl) rfl (wpR_v (OpV_move rfl) rfl (wpR_gskip (b := false) (t := 55) rfl rfl rfl rfl ?_))
    refine wpR_gskip (b := false) (t := 55) rfl rfl rfl rfl ?_
    refine wpR_gskip (b := false) (t := 55) rfl rfl rfl rfl ?_
    refine wpR_v (OpV_pickF rfl rfl) rfl (wpR_v (OpV_move rfl) rfl (wpR_gskip (b := false) (t := 60) rfl rfl rfl rfl ?_))
    refine wpR_gskip (b := false) (t := 60) rfl rfl rfl rfl ?_
    refine wpR_gskip (b := false) (t := 60) rfl rfl rfl rfl ?_
    refine wpR_v (OpV_pickF rfl rfl) rfl (wpR_v (OpV_assign rfl) rfl (wpR_nil (QE_then_n (wpC_ret ?_))))
    cases h
    exact QE_ret1 rfl rfl ⟨rfl, hS.pick [] (by decide) rfl⟩
  case false =>
   have h := if_f h hb_21
   try simp only [hb_21]
   refine wpR_gskip (b := false) (t := 45) rfl rfl rfl rfl ?_
   refine wpR_gskip (b := false) (t := 45) rfl rfl rfl rfl ?_
   refine wpR_gskip (b := false) (t := 45) rfl rfl rfl rfl ?_
   refine wpR_v (OpV_pickF rfl rfl) rfl (wpR_v (OpV_move rfl) rfl (wpR_gskip (b := false) (t := 50) rfl rfl rfl rfl ?_))
   refine wpR_gskip (b := false) (t := 50) rfl rfl rfl rfl ?_
   refine wpR_gskip (b := false) (t := 50) rfl rfl rfl rfl ?_
   refine wpR_v (OpV_pickF rfl rfl) rfl (wpR_v (OpV_move rfl) rfl (wpR_gskip (b := false) (t := 55) rfl rfl rfl rfl ?_))
   refine wpR_gskip (b := false) (t := 55) rfl rfl rfl rfl ?_
   refine wpR_gskip (b := false) (t := 55) rfl rfl rfl rfl ?_
   refine wpR_v (OpV_pickF rfl rfl) rfl (wpR_v (OpV_move rfl) rfl (wpR_gskip (b := false) (t := 60) rfl rfl rfl rfl ?_))
   refine wpR_gskip (b := false) (t := 60) rfl rfl rfl rfl ?_
   refine wpR_gskip (b := false) (t := 60) rfl rfl rfl rfl ?_
   refine wpR_v (OpV_pickF rfl rfl) rfl (wpR_v (OpV_assign rfl) rfl (wpR_nil (QE_then_n (wpC_ret ?_))))
   cases h
   exact QE_ret1 rfl rfl ⟨rfl, hS.pick [] (by decide) rfl⟩
 case false =>
  have h := if_f h hb_19
  try simp only [hb_19]
  refine wpR_gskip (b := false) (t := 40) rfl rfl rfl rfl ?_
  refine wpR_gskip (b := false) (t := 40) rfl rfl rfl rfl ?_
  refine wpR_gskip (b := false) (t := 40) rfl rfl rfl rfl ?_
  refine wpR_v (OpV_pickF rfl rfl) rfl (wpR_v (OpV_move rfl) rfl (wpR_gskip (b := false) (t := 45) rfl rfl rfl rfl ?_))
  refine wpR_gskip (b := false) (t := 45) rfl rfl rfl rfl ?_
  refine wpR_gskip (b := false) (t := 45) rfl rfl rfl rfl ?_
  refine wpR_v (OpV_pickF rfl rfl) rfl (wpR_v (OpV_move rfl) rfl (wpR_gskip (b := false) (t := 50) rfl rfl rfl rfl ?_))
  refine wpR_gskip (b := false) (t := 50) rfl rfl rfl rfl ?_
  refine wpR_gskip (b := false) (t := 50) rfl rfl rfl rfl ?_
  refine wpR_v (OpV_pickF rfl rfl) rfl (wpR_v (OpV_move rfl) rfl (wpR_gskip (b := false) (t := 55) rfl rfl rfl rfl ?_))
  refine wpR_gskip (b := false) (t := 55) rfl rfl rfl rfl ?_
  refine wpR_gskip (b := false) (t := 55) rfl rfl rfl rfl ?_
  refine wpR_v (OpV_pickF rfl rfl) rfl (wpR_v (OpV_move rfl) rfl (wpR_gskip (b := false) (t := 60) rfl rfl rfl rfl ?_))
  refine wpR_gskip (b := false) (t := 60) rfl rfl rfl rfl ?_
  refine wpR_gskip (b := false) (t := 60) rfl rfl rfl rfl ?_
  refine wpR_v (OpV_pickF rfl rfl) rfl (wpR_v (OpV_assign rfl) rfl (wpR_nil (QE_then_n (wpC_ret ?_))))
  cases h
  exact QE_ret1 rfl rfl ⟨rfl, hS.pick [] (by decide) rfl⟩
theorem c_law31_CoseParses (w0 : World) (a0 : List UInt8) (a1 : List UInt8) (va0 : Value) (va1 : Value) (hT : TB [] w0) (ha0 : RP [] w0 e8 va0 a0) (ha1 : RP [] w0 e8 va1 a1) (r : Bool)
  (h : F.law31_CoseParses a0 a1 = some r) : Calls Tryd.prog 4 #[va0, va1] w0 (Ret fun v w => v = vB r ∧ St [] w0 w []) := by
 refine calls_at 54 Tryd.func4 rfl rfl rfl ?_
 have hS := St.start w0
 refine wpC_le [(0, va0), (1, va1)] ⟨rfl, rfl, trivial⟩ ?_
 unfold F.law31_CoseParses at h
 refine wpC_seq (wpC_region (wpR_v (OpV_assign rfl) rfl (wpR_nil (QE_then_n (wpC_seq (wpC_region ?_))))))
 refine wpR_v (OpV_move rfl) rfl ?_
 obtain ⟨x_1, hx_1, h⟩ := obind_some h
 refine wpR_call (by kernel_rfl) rfl (c_law31_roomy _ a0 va0  (ha0.now hS.fr).rp _ hx_1) rfl ?_
 rintro _ w ⟨v_2, rfl, hk_4, hS1⟩
 have hS := hS.call hS1
 simp only [List.cons_append, List.nil_append] at hS
 refine wpR_v (OpV_assign rfl) rfl (wpR_nil (QE_then_n (wpC_seq (wpC_region (wpR_v (OpV_move rfl) rfl ?_)))))
 obtain ⟨x_5, hx_5, h⟩ := obind_some h
 refine wpR_call (by kernel_rfl) rfl (c_law31_roomy _ a1 va1  (ha1.now hS.fr).rp _ hx_5) rfl ?_
 rintro _ w ⟨v_6, rfl, hk_8, hS1⟩
 have hS := hS.call hS1
 simp only [List.cons_append, List.nil_append] at hS
 refine wpR_v (OpV_assign rfl) rfl (wpR_nil (QE_then_n (wpC_seq ?_)))
 refine seq_join (r := r) (fun (g : Bool) L w => L = [(5, slV v_2 e8.sz 0 x_1.2), (6, slV v_6 e8.sz 0 x_5.2), (26, vB g)] ∧ St [] w0 w [own e8 v_2 x_1.1, own e8 v_6 x_5.1]) (F.law31_CoseParses_K1 x_1 x_5) ?_ ?_
 ·rintro x_14 L w hJ h
  try dsimp only at hJ
  obtain ⟨rfl, hS⟩ := hJ
  unfold F.law31_CoseParses_K1 at h
  refine wpC_cond rfl (fun hb_31 => ?_) (fun hb_31 => ?_)
  ·have h := if_t h hb_31
   refine wpC_seq (wpC_region (wpR_v (OpV_assign rfl) rfl (wpR_nil (QE_then_n (wpC_ret (QE_then_r ?_))))))
   cases h
   exact QE_ret1 rfl rfl ⟨rfl, hS.pick [] (by decide) rfl⟩
  ·have h := if_f h hb_31
   refine wpC_skip (QE_then_n ?_)
   refine seq_join (r := r) (fun (g : List UInt8) L w => L = [(5, slV v_2 e8.sz 0 x_1.2), (6, slV v_6 e8.sz 0 x_5.2)] ∧ x_1.2 ≤ g.length ∧ St [] w0 w [own e8 v_2 g, own e8 v_6 x_5.1]) (F.law31_CoseParses_K2 x_5 x_1) ?_ ?_
   ·rintro x_20 L w hJ h
    try dsimp only at hJ
    obtain ⟨rfl, hK_21, hS⟩ := hJ
    unfold F.law31_CoseParses_K2 at h
    refine seq_join (r := r) (fun (g : List UInt8) L w => L = [(5, slV v_2 e8.sz 0 x_1.2), (6, slV v_6 e8.sz 0 x_5.2)] ∧ x_5.2 ≤ g.length ∧ St [] w0 w [own e8 v_2 x_20, own e8 v_6 g]) (F.law31_CoseParses_K3 x_1 x_5 x_20) ?_ ?_
    ·rintro x_27 L w hJ h
     try dsimp only at hJ
     obtain ⟨rfl, hK_28, hS⟩ := hJ
     unfold F.law31_CoseParses_K3 at h
     refine wpC_seq (wpC_region (wpR_v (OpV_move rfl) rfl (wpR_v (OpV_move rfl) rfl ?_)))
     obtain ⟨x_30, hx_30, h⟩ := obind_some h
     refine wpR_call (by kernel_rfl) rfl (c_law31_parses _ (x_20.take x_1.2) (x_27.take x_5.2) (slV v_2 e8.sz 0 x_1.2) (slV v_6 e8.sz 0 x_5.2)  (hT.now hS.fr) ((hS.ro 0 rfl).tk hK_21).rp ((hS.ro 1 rfl).tk hK_28).rp _ hx_30) rfl ?_
     rintro _ w ⟨rfl, hS1⟩
     have hS := hS.call hS1
     simp only [List.cons_append, List.nil_append] at hS
     refine wpR_v (OpV_assign rfl) rfl (wpR_nil (QE_then_n (wpC_ret ?_)))
     cases h
     exact QE_ret1 rfl rfl ⟨rfl, hS.pick [] (by decide) rfl⟩
    ·intro hK_29
     refine wpC_seq (wpC_region (wpR_v (OpV_move rfl) rfl (wpR_v (OpV_len Tryd.underlying22 rfl ((hS.ro 1 rfl).tk hk_8)) rfl ?_)))
     refine wpR_v (OpV_bin rfl rfl (b_igtr _ ((x_5.1.take x_5.2).length : Int) 0)) rfl ?_
     refine wpR_nil (QE_then_n ?_)
     refine wpC_cond rfl (fun hb_26 => ?_) (fun hb_26 => ?_)
     ·have h := if_t h hb_26
      refine wpC_region (wpR_v (OpV_move rfl) rfl (wpR_v (OpV_move rfl) rfl ?_))
      obtain ⟨x_23, hx_23, h⟩ := obind_some h
      refine wpR_v (G_ix_room Tryd.underlying22 ti5 rfl rfl (hS.ro 1 rfl) hk_8 hx_23) rfl ?_
      refine wpR_v (G_load Tryd.underlying5 rfl rfl (hS.ro 1 rfl) (getO_take hx_23) rfl) rfl ?_
      refine wpR_v (OpV_bin rfl rfl (b_xor8 _ x_23 1)) rfl ?_
      obtain ⟨x_24, hx_24, h⟩ := obind_some h
      refine wpR_v (G_ix_room Tryd.underlying22 ti5 rfl rfl (hS.ro 1 rfl) hk_8 hx_24) rfl ?_
      refine wpR_y (G_storeE (t := (x_23 ^^^ 1)) ti5 rfl rfl hS (i := 1) rfl (getO_take hx_24) rfl) ?_
      intro w hS
      obtain ⟨x_25, hx_25, h⟩ := olet_some h
      rw [hx_25] at hS
      refine wpR_nil (QE_then_n ?_)
      exact wpC_le _ (by exact ⟨rfl, rfl, trivial⟩) (hK_29 x_25 _ _ ⟨rfl, (by rw [← hx_25, List.length_set]; exact hk_8), hS⟩ h)
     ·have h := if_f h hb_26
      refine wpC_skip (QE_then_n ?_)
      exact wpC_le _ (by exact ⟨rfl, rfl, trivial⟩) (hK_29 x_5.1 _ _ ⟨rfl, hk_8, hS⟩ h)
   ·intro hK_22
    refine wpC_seq (wpC_region (wpR_v (OpV_move rfl) rfl (wpR_v (OpV_len Tryd.underlying22 rfl ((hS.ro 0 rfl).tk hk_4)) rfl ?_)))
    refine wpR_v (OpV_bin rfl rfl (b_igtr _ ((x_1.1.take x_1.2).length : Int) 0)) rfl ?_
    refine wpR_nil (QE_then_n ?_)
    refine wpC_cond rfl (fun hb_19 => ?_) (fun hb_19 => ?_)
    ·have h := if_t h hb_19
     refine wpC_region (wpR_v (OpV_move rfl) rfl (wpR_v (OpV_move rfl) rfl (wpR_v (OpV_len Tryd.underlying22 rfl ((hS.ro 0 rfl).tk hk_4)) rfl ?_)))
     refine wpR_v (OpV_bin rfl rfl (b_isub _ ((x_1.1.take x_1.2).length : Int) 1)) rfl ?_
     refine wpR_v (OpV_move rfl) rfl (wpR_v (OpV_move rfl) rfl (wpR_v (OpV_len Tryd.underlying22 rfl ((hS.ro 0 rfl).tk hk_4)) rfl ?_))
     refine wpR_v (OpV_bin rfl rfl (b_isub _ ((x_1.1.take x_1.2).length : Int) 1)) rfl ?_
     obtain ⟨x_16, hx_16, h⟩ := obind_some h
     refine wpR_v (G_ix_room Tryd.underlying22 ti5 rfl rfl (hS.ro 0 rfl) hk_4 hx_16) rfl ?_
     refine wpR_v (G_load Tryd.underlying5 rfl rfl (hS.ro 0 rfl) (getO_take hx_16) rfl) rfl ?_
     refine wpR_v (OpV_bin rfl rfl (b_xor8 _ x_16 1)) rfl ?_
     obtain ⟨x_17, hx_17, h⟩ := obind_some h
     refine wpR_v (G_ix_room Tryd.underlying22 ti5 rfl rfl (hS.ro 0 rfl) hk_4 hx_17) rfl ?_
     refine wpR_y (G_storeE (t := (x_16 ^^^ 1)) ti5 rfl rfl hS (i := 0) rfl (getO_take hx_17) rfl) ?_
     intro w hS
     obtain ⟨x_18, hx_18, h⟩ := olet_some h
     rw [hx_18] at hS
     refine wpR_nil (QE_then_n ?_)
     exact wpC_le _ (by exact ⟨rfl, rfl, trivial⟩) (hK_22 x_18 _ _ ⟨rfl, (by rw [← hx_18, List.length_set]; exact hk_4), hS⟩ h)
    ·have h := if_f h hb_19
     refine wpC_skip (QE_then_n ?_)
     exact wpC_le _ (by exact ⟨rfl, rfl, trivial⟩) (hK_22 x_1.1 _ _ ⟨rfl, hk_4, hS⟩ h)
 ·intro hK_15
  refine wpC_region (wpR_v (OpV_move rfl) rfl (wpR_v (OpV_move rfl) rfl ?_))
  obtain ⟨x_9, hx_9, h⟩ := obind_some h
  refine wpR_call (by kernel_rfl) rfl (c_law31_parses _ (x_1.1.take x_1.2) (x_5.1.take x_5.2) (slV v_2 e8.sz 0 x_1.2) (slV v_6 e8.sz 0 x_5.2)  (hT.now hS.fr) ((hS.ro 1 rfl).tk hk_4).rp ((hS.ro 0 rfl).tk hk_8).rp _ hx_9) rfl ?_
  rintro _ w ⟨rfl, hS1⟩
  have hS := hS.call hS1
  simp only [List.cons_append, List.nil_append] at hS
  refine wpR_v (OpV_un rfl (u_not x_9)) rfl ?_
  refine wpR_v (OpV_move rfl) rfl ?_
  cases hb_10 : (!x_9)
  case true =>
   have h := if_t h hb_10
   try simp only [hb_10]
   refine wpR_gskip (b := true) (t := 15) rfl rfl rfl rfl ?_
   refine wpR_gskip (b := true) (t := 15) rfl rfl rfl rfl ?_
   refine wpR_gskip (b := true) (t := 15) rfl rfl rfl rfl ?_
   refine wpR_gskip (b := true) (t := 15) rfl rfl rfl rfl ?_
   refine wpR_v (OpV_pickT rfl rfl) rfl (wpR_v (OpV_move rfl) rfl (wpR_gskip (b := true) (t := 21) rfl rfl rfl rfl ?_))
   refine wpR_gskip (b := true) (t := 21) rfl rfl rfl rfl ?_
   refine wpR_gskip (b := true) (t := 21) rfl rfl rfl rfl ?_
   refine wpR_gskip (b := true) (t := 21) rfl rfl rfl rfl ?_
   refine wpR_v (OpV_pickT rfl rfl) rfl (wpR_nil (QE_then_n ?_))
   exact wpC_le _ (by exact ⟨rfl, rfl, rfl, trivial⟩) (hK_15 true _ _ ⟨rfl, (hS.pick [1, 0] (by decide) rfl)⟩ h)
  case false =>
   have h := if_f h hb_10
   try simp only [hb_10]
   refine wpR_gv (t := 15) rfl rfl (OpV_move rfl) rfl ?_
   refine wpR_gv (t := 15) rfl rfl (OpV_move rfl) rfl ?_
   obtain ⟨x_11, hx_11, h⟩ := obind_some h
   refine wpR_gcall (t := 15) rfl rfl (by kernel_rfl) rfl (c_law31_spared _ x_1.1 x_1.2 a0 v_2 va0  (hS.ro 1 rfl).rp hk_4 (ha0.now hS.fr).rp _ hx_11) rfl ?_
   rintro _ w ⟨rfl, hS1⟩
   have hS := hS.call hS1
   simp only [List.cons_append, List.nil_append] at hS
   refine wpR_gv (t := 15) rfl rfl (OpV_un rfl (u_not x_11)) rfl ?_
   refine wpR_v (OpV_pickF rfl rfl) rfl (wpR_v (OpV_move rfl) rfl ?_)
   cases hb_12 : (!x_11)
   case true =>
    have h := if_t h hb_12
    try simp only [hb_12]
    refine wpR_gskip (b := true) (t := 21) rfl rfl rfl rfl ?_
    refine wpR_gskip (b := true) (t := 21) rfl rfl rfl rfl ?_
    refine wpR_gskip (b := true) (t := 21) rfl rfl rfl rfl ?_
    refine wpR_gskip (b := true) (t := 21) rfl rfl rfl rfl ?_
    refine wpR_v (OpV_pickT rfl rfl) rfl (wpR_nil (QE_then_n ?_))
    exact wpC_le _ (by exact ⟨rfl, rfl, rfl, trivial⟩) (hK_15 true _ _ ⟨rfl, (hS.pick [1, 0] (by decide) rfl)⟩ h)
   case false =>
    have h := if_f h hb_12
    try simp only [hb_12]
    refine wpR_gv (t := 21) rfl rfl (OpV_move rfl) rfl ?_
    refine wpR_gv (t := 21) rfl rfl (OpV_move rfl) rfl ?_
    obtain ⟨x_13, hx_13, h⟩ := obind_some h
    refine wpR_gcall (t := 21) rfl rfl (by kernel_rfl) rfl (c_law31_spared _ x_5.1 x_5.2 a1 v_6 va1  (hS.ro 0 rfl).rp hk_8 (ha1.now hS.fr).rp _ hx_13) rfl ?_
    rintro _ w ⟨rfl, hS1⟩
    have hS := hS.call hS1
    simp only [List.cons_append, List.nil_append] at hS
    refine wpR_gv (t := 21) rfl rfl (OpV_un rfl (u_not x_13)) rfl ?_
    refine wpR_v (OpV_pickF rfl rfl) rfl (wpR_nil (QE_then_n ?_))
    exact wpC_le _ (by exact ⟨rfl, rfl, rfl, trivial⟩) (hK_15 (!x_13) _ _ ⟨rfl, (hS.pick [1, 0] (by decide) rfl)⟩ h)
end Go.Proofs
