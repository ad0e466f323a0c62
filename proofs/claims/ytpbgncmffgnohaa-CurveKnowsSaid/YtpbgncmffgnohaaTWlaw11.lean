import Derived.Test.YtpbgncmffgnohaaTW0
import Derived.Test.YtpbgncmffgnohaaGkFlaw11
import Derived.Test.YtpbgncmffgnohaaTWcurve
import Derived.Test.YtpbgncmffgnohaaTWref11
set_option linter.unusedVariables false
set_option linter.unusedSimpArgs false
set_option linter.unusedVariables false
set_option maxRecDepth 4000
namespace Go.Proofs
open Go Go.RowKit Go.Gk
theorem c_law11_marked (w0 : World) (a0 : List UInt32) (va0 : Value) (ha0 : RP [] w0 e32 va0 a0) (r : (List UInt32 × Nat))
  (h : F.law11_marked a0 = some r) : Calls Try.prog 33 #[va0] w0 (Ret fun v w => ∃ u0 : Value, v = slV u0 e32.sz 0 r.2 ∧ r.2 ≤ r.1.length ∧ St [] w0 w [own e32 u0 r.1]) := by
 refine calls_at 33 Try.func33 rfl rfl rfl ?_
 have hS := St.start w0
 refine wpC_le [(0, va0)] ⟨rfl, trivial⟩ ?_
 unfold F.law11_marked at h
 refine wpC_seq (wpC_region (wpR_run 1 rfl ?_))
 refine wpR_nil (QE_then_n (wpC_seq (wpC_region (wpR_run 1 rfl ?_))))
 refine wpR_nil (QE_then_n (wpC_seq (wpC_seq (wpC_region (wpR_run 1 rfl ?_)))))
 refine wpR_nil (QE_then_n (wpC_block ?_))
 refine wpC_le [(0, va0), (3, .slice none 0 0), (4, vI 0)] ⟨rfl, rfl, rfl, trivial⟩ ?_
 refine loop_ind (F.law11_marked_L1 a0) (fun (s : List UInt32 × Int) L w => ∃ (v_2 : Value), L = [(0, va0), (3, v_2), (4, vI s.2)] ∧ St [] w0 w [own e32 v_2 s.1]) ?_ ([], 0) ⟨.slice none 0 0, rfl, (hS.nil e32)⟩ h
 rintro k_30 ⟨x_1, x_4⟩ L w q_7 hI ih_6 h hk_5
 try dsimp only at hI
 obtain ⟨v_2, rfl, hS⟩ := hI
 unfold F.law11_marked_L1 at h
 refine wpC_seq (wpC_seq (wpC_region (wpR_run 2 rfl ?_)))
 refine wpR_v (OpV_len Try.underlying24 rfl (ha0.now hS.fr)) rfl ?_
 refine wpR_run 1 rfl ?_
 refine wpR_nil (QE_then_n ?_)
 refine wpC_cond rfl (fun hb_29 => ?_) (fun hb_29 => ?_)
 ·have h := if_t h hb_29
  refine wpC_skip (QE_then_n (wpC_seq (wpC_block ?_)))
  refine wpC_region (wpR_run 3 rfl ?_)
  obtain ⟨x_8, hx_8, h⟩ := obind_some h
  refine wpR_v (G_ix Try.underlying24 ti52 rfl rfl (ha0.now hS.fr) hx_8) rfl ?_
  refine wpR_v (G_load Try.underlying52 rfl rfl (ha0.now hS.fr) hx_8 rfl) rfl ?_
  refine wpR_x (OpX_lit (e := e32) (l := ([x_8] : List UInt32)) (vs := [v32 x_8]) Try.underlying24 ti52 rfl rfl rfl rfl (by decide) (by decide) hS) rfl ?_
  rintro v_9 w hS
  obtain ⟨x_11, hx_11, h⟩ := obind_some h
  refine wpR_x (G_append Try.underlying24 ti52 rfl rfl rfl hS (i := 1) rfl (hS.ro 0 rfl) hx_11) rfl ?_
  rintro v_12 w hS
  refine wpR_run 1 rfl ?_
  refine wpR_nil (QE_blk_n ?_)
  refine QE_then_n (wpC_region (wpR_run 3 rfl ?_))
  refine wpR_nil ?_
  exact QE_rnd (wpN_le _ (by exact ⟨rfl, rfl, rfl, trivial⟩) (ih_6 (x_11, wI (x_4 + 1)) _ _ ⟨v_12, rfl, (hS.pick [1] (by decide) rfl)⟩ (oinl_some h hk_5)))
 have h := if_f h hb_29
 refine wpC_exit ?_
 refine QE_then_x (QE_then_x ?_)
 have h := oinr_some h hk_5
 refine QE_blk_x ?_
 refine QE_then_n (wpC_seq (wpC_seq (wpC_region (wpR_run 1 rfl ?_))))
 refine wpR_nil (QE_then_n (wpC_block ?_))
 refine wpC_le [(0, va0), (3, v_2), (5, vI 0)] ⟨rfl, rfl, rfl, trivial⟩ ?_
 refine loop_ind (F.law11_marked_L2 a0) (fun (s : List UInt32 × Int) L w => ∃ (v_15 : Value), L = [(0, va0), (3, v_15), (5, vI s.2)] ∧ St [] w0 w [own e32 v_15 s.1]) ?_ (x_1, 0) ⟨v_2, rfl, hS⟩ h
 rintro k_28 ⟨x_14, x_17⟩ L w q_20 hI ih_19 h hk_18
 try dsimp only at hI
 obtain ⟨v_15, rfl, hS⟩ := hI
 unfold F.law11_marked_L2 at h
 refine wpC_seq (wpC_seq (wpC_region (wpR_run 2 rfl ?_)))
 refine wpR_nil (QE_then_n ?_)
 refine wpC_cond rfl (fun hb_27 => ?_) (fun hb_27 => ?_)
 ·have h := if_t h hb_27
  refine wpC_skip (QE_then_n (wpC_seq (wpC_block ?_)))
  refine wpC_region (wpR_run 3 rfl ?_)
  refine wpR_v (OpV_conv rfl (cv_i_32 Try.underlying3 Try.underlying52 (wI (7000 + x_17)))) rfl ?_
  refine wpR_x (OpX_lit (e := e32) (l := ([UInt32.ofInt (wI (7000 + x_17))] : List UInt32)) (vs := [v32 (UInt32.ofInt (wI (7000 + x_17)))]) Try.underlying24 ti52 rfl rfl rfl rfl (by decide) (by decide) hS) rfl ?_
  rintro v_21 w hS
  obtain ⟨x_23, hx_23, h⟩ := obind_some h
  refine wpR_x (G_append Try.underlying24 ti52 rfl rfl rfl hS (i := 1) rfl (hS.ro 0 rfl) hx_23) rfl ?_
  rintro v_24 w hS
  refine wpR_run 1 rfl ?_
  refine wpR_nil (QE_blk_n ?_)
  refine QE_then_n (wpC_region (wpR_run 3 rfl ?_))
  refine wpR_nil ?_
  exact QE_rnd (wpN_le _ (by exact ⟨rfl, rfl, rfl, trivial⟩) (ih_19 (x_23, wI (x_17 + 1)) _ _ ⟨v_24, rfl, (hS.pick [1] (by decide) rfl)⟩ (oinl_some h hk_18)))
 have h := if_f h hb_27
 refine wpC_exit ?_
 refine QE_then_x (QE_then_x ?_)
 have h := oinr_some h hk_18
 refine QE_blk_x ?_
 refine QE_then_n (wpC_seq (wpC_region (wpR_run 2 rfl ?_)))
 refine wpR_v (OpV_len Try.underlying24 rfl (ha0.now hS.fr)) rfl ?_
 obtain ⟨hg_26, h⟩ := grd_some h
 refine wpR_v (G_slh Try.underlying24 ti52 rfl rfl (hS.ro 0 rfl) (tkO_of hg_26)) rfl ?_
 refine wpR_run 1 rfl ?_
 refine wpR_nil (QE_then_n (wpC_ret ?_))
 cases h
 exact QE_ret1 rfl rfl ⟨v_15, rfl, hg_26.2, hS.pick [0] (by decide) rfl⟩
theorem c_law11_lent (w0 : World) (a0_0 : List UInt32) (a0_1 : List UInt32) (a0_2 : Bool) (va0_0 : Value) (va0_1 : Value) (ha0_0 : RP [] w0 e32 va0_0 a0_0) (ha0_1 : RP [] w0 e32 va0_1 a0_1) (r : (List UInt32 × Nat) × (List UInt32 × Nat) × Bool)
  (h : F.law11_lent a0_0 a0_1 a0_2 = some r) : Calls Try.prog 7 #[.agg #[va0_0, va0_1, vB a0_2]] w0 (Ret fun v w => ∃ u0_0 u0_1 : Value, v = .agg #[slV u0_0 e32.sz 0 r.1.2, slV u0_1 e32.sz 0 r.2.1.2, vB r.2.2] ∧ r.1.2 ≤ r.1.1.length ∧ r.2.1.2 ≤ r.2.1.1.length ∧ St [] w0 w [own e32 u0_0 r.1.1, own e32 u0_1 r.2.1.1]) := by
 refine calls_at 12 Try.func7 rfl rfl rfl ?_
 have hS := St.start w0
 refine wpC_le [(0, .agg #[va0_0, va0_1, vB a0_2])] ⟨rfl, trivial⟩ ?_
 unfold F.law11_lent at h
 refine wpC_seq (wpC_region (wpR_x (OpX_box (cs := [va0_0, va0_1, vB a0_2]) rfl rfl hS) rfl ?_))
 rintro _ w ⟨b_1, rfl, hS⟩
 refine wpR_x (OpX_alloc (cs := [.slice none 0 0, .slice none 0 0, vB false]) tz26 rfl hS) rfl ?_
 rintro _ w ⟨b_3, rfl, hS⟩
 refine wpR_nil (QE_then_n (wpC_seq ?_))
 refine wpC_regionS (fun w' => St [] w0 w' [OE.bx b_3 [.slice none 0 0, .slice none 0 0, vB false], OE.bx b_1 [va0_0, va0_1, vB a0_2]]) (fun i => !([2, 5, 9].contains i)) hmix (fun _ _ _ hf => hf.2) (fun _ _ hf => hf) (by kernel_rfl) ?_
 have hS := hS.drew
 show lxE _ _ _ _ _ _ _ [0, 1, 2, 3, 4, 5, 6, 7, 8, 9] _ _
 refine lxE_v hS rfl rfl (fun w hF => OpV_fieldB (k := 0) Try.underlying26 rfl rfl nz24 rfl) rfl ?_
 refine lxE_v hS rfl rfl (fun w hF => OpV_ldB Try.underlying24 rfl rfl (hF.bxc 1 rfl 0)) rfl ?_
 obtain ⟨x_5, hx_5, h⟩ := obind_some h
 refine lxE_call hS rfl rfl (by kernel_rfl) rfl (c_law11_marked _ a0_0 va0_0  (ha0_0.now hS.fr).rp _ hx_5) rfl ?_
 rintro _ w ⟨v_6, rfl, hk_8, hS1⟩
 have hS := hS.call hS1
 simp only [List.cons_append, List.nil_append] at hS
 have h1_9 := ((hS.ro 0 rfl).tk hk_8).one
 refine lxE_v (hS.pick [1, 2] (by decide) rfl) rfl rfl (fun w hF => OpV_fieldB (k := 1) Try.underlying26 rfl rfl nz24 rfl) rfl ?_
 refine lxE_v (hS.pick [1, 2] (by decide) rfl) rfl rfl (fun w hF => OpV_ldB Try.underlying24 rfl rfl (hF.bxc 1 rfl 1)) rfl ?_
 obtain ⟨x_10, hx_10, h⟩ := obind_some h
 refine lxE_call (hS.pick [1, 2] (by decide) rfl) rfl rfl (by kernel_rfl) rfl (c_law11_marked _ a0_1 va0_1  (ha0_1.now hS.fr).rp _ hx_10) rfl ?_
 rintro _ w ⟨v_11, rfl, hk_13, hS1⟩
 have hS := hS.call hS1
 simp only [List.cons_append, List.nil_append] at hS
 have h1_14 := ((hS.ro 0 rfl).tk hk_13).one
 refine lxE_v (hS.pick [2, 3] (by decide) rfl) rfl rfl (fun w hF => OpV_fieldB (k := 2) Try.underlying26 rfl rfl nz4 rfl) rfl ?_
 refine lxE_v (hS.pick [2, 3] (by decide) rfl) rfl rfl (fun w hF => OpV_ldB Try.underlying4 rfl rfl (hF.bxc 1 rfl 2)) rfl ?_
 refine lxE_v (hS.pick [2, 3] (by decide) rfl) rfl rfl (fun w hF => OpV_build (vs := [(0, slV v_6 e32.sz 0 x_5.2, [slV v_6 e32.sz 0 x_5.2]), (1, slV v_11 e32.sz 0 x_10.2, [slV v_11 e32.sz 0 x_10.2]), (2, vB a0_2, [vB a0_2])]) (cells := [slV v_6 e32.sz 0 x_5.2, slV v_11 e32.sz 0 x_10.2, vB a0_2]) rfl lay26 ⟨(cells_one h1_9), (cells_one h1_14), rfl, trivial⟩ rfl) rfl ?_
 refine lxE_y (hS.pick [2, 3] (by decide) rfl) rfl rfl (OpY_stB (i := 2) (us := [slV v_6 e32.sz 0 x_5.2, slV v_11 e32.sz 0 x_10.2, vB a0_2]) rfl sz26 rfl rfl rfl ⟨((hS.ro 1 rfl).tk hk_8).one, ((hS.ro 0 rfl).tk hk_13).one, rfl, trivial⟩ rfl hS) ?_
 intro w hS
 replace hS : St _ _ w [own e32 v_11 x_10.1, own e32 v_6 x_5.1, OE.bx b_3 [slV v_6 e32.sz 0 x_5.2, slV v_11 e32.sz 0 x_10.2, vB a0_2], OE.bx b_1 [va0_0, va0_1, vB a0_2]] := hS
 refine lxE_nil trivial ?_
 refine QE_then_n (wpC_ret ?_)
 cases h
 exact QE_rv1 rfl ⟨_, rfl, run_ldAgg (us := [slV v_6 e32.sz 0 x_5.2, slV v_11 e32.sz 0 x_10.2, vB a0_2]) Try.underlying26 rfl sz26 (hS.bxs 2 rfl rfl)⟩ ⟨v_6, v_11, rfl, hk_8, hk_13, hS.pick [1, 0] (by decide) rfl⟩
theorem c_law11_sameNat (w0 : World) (a0 : List UInt32) (a1 : List UInt32) (va0 : Value) (va1 : Value) (ha0 : RP [] w0 e32 va0 a0) (ha1 : RP [] w0 e32 va1 a1) (r : Bool)
  (h : F.law11_sameNat a0 a1 = some r) : Calls Try.prog 11 #[va0, va1] w0 (Ret fun v w => v = vB r ∧ St [] w0 w []) := by
 refine calls_at 26 Try.func11 rfl rfl rfl ?_
 have hS := St.start w0
 refine wpC_le [(0, va0), (1, va1)] ⟨rfl, rfl, trivial⟩ ?_
 unfold F.law11_sameNat at h
 refine wpC_seq (wpC_region (wpR_run 1 rfl ?_))
 refine wpR_nil (QE_then_n (wpC_seq (wpC_seq (wpC_region (wpR_run 1 rfl ?_)))))
 refine wpR_v (OpV_len Try.underlying24 rfl (ha0.now hS.fr)) rfl ?_
 refine wpR_run 1 rfl ?_
 refine wpR_v (OpV_len Try.underlying24 rfl (ha1.now hS.fr)) rfl ?_
 refine wpR_run 1 rfl ?_
 refine wpR_nil (QE_then_n ?_)
 refine wpC_cond rfl (fun hb_10 => ?_) (fun hb_10 => ?_)
 ·have h := if_t h hb_10
  refine wpC_seq (wpC_region (wpR_run 1 rfl ?_))
  refine wpR_nil (QE_then_n (wpC_ret (QE_then_r ?_)))
  cases h
  exact QE_ret1 rfl rfl ⟨rfl, hS⟩
 have h := if_f h hb_10
 refine wpC_skip (QE_then_n (wpC_seq (wpC_seq (wpC_region (wpR_run 1 rfl ?_)))))
 refine wpR_nil (QE_then_n (wpC_block ?_))
 refine wpC_le [(0, va0), (1, va1), (5, vI 0)] ⟨rfl, rfl, rfl, trivial⟩ ?_
 refine loop_ind (F.law11_sameNat_L1 a0 a1) (fun (s : Int) L w => L = [(0, va0), (1, va1), (5, vI s)] ∧ St [] w0 w []) ?_ 0 ⟨rfl, hS⟩ h
 rintro k_9 x_1 L w q_4 hI ih_3 h hk_2
 try dsimp only at hI
 obtain ⟨rfl, hS⟩ := hI
 unfold F.law11_sameNat_L1 at h
 refine wpC_seq (wpC_seq (wpC_region (wpR_run 2 rfl ?_)))
 refine wpR_v (OpV_len Try.underlying24 rfl (ha0.now hS.fr)) rfl ?_
 refine wpR_run 1 rfl ?_
 refine wpR_nil (QE_then_n ?_)
 refine wpC_cond rfl (fun hb_8 => ?_) (fun hb_8 => ?_)
 ·have h := if_t h hb_8
  refine wpC_skip (QE_then_n (wpC_seq (wpC_block ?_)))
  refine wpC_seq ?_
  refine wpC_regionT (fun w' => St [] w0 w' []) (fun _ => true) hmix (fun _ _ _ hf => hf.2) (fun _ _ hf => hf) (by kernel_rfl) ?_
  have hS := hS.drew
  show lxE _ _ _ _ _ _ _ [0, 1, 2, 3, 4, 5, 6, 7, 8] _ _
  refine lxE_v hS rfl rfl (fun w hF => OpV_move rfl) rfl ?_
  refine lxE_v hS rfl rfl (fun w hF => OpV_move rfl) rfl ?_
  obtain ⟨x_5, hx_5, h⟩ := obind_some h
  refine lxE_v hS rfl rfl (fun w hF => G_ix Try.underlying24 ti52 rfl rfl (ha0.now hF.fr) hx_5) rfl ?_
  refine lxE_v hS rfl rfl (fun w hF => G_load Try.underlying52 rfl rfl (ha0.now hF.fr) hx_5 rfl) rfl ?_
  refine lxE_v hS rfl rfl (fun w hF => OpV_move rfl) rfl ?_
  refine lxE_v hS rfl rfl (fun w hF => OpV_move rfl) rfl ?_
  obtain ⟨x_6, hx_6, h⟩ := obind_some h
  refine lxE_v hS rfl rfl (fun w hF => G_ix Try.underlying24 ti52 rfl rfl (ha1.now hF.fr) hx_6) rfl ?_
  refine lxE_v hS rfl rfl (fun w hF => G_load Try.underlying52 rfl rfl (ha1.now hF.fr) hx_6 rfl) rfl ?_
  refine lxE_v hS rfl rfl (fun w hF => OpV_bin rfl rfl (b_neq32 _ x_5 x_6)) rfl ?_
  refine lxE_nil hS ?_
  refine QE_then_n ?_
  refine wpC_cond rfl (fun hb_7 => ?_) (fun hb_7 => ?_)
  ·have h := if_t h hb_7
   refine wpC_seq (wpC_region (wpR_run 1 rfl ?_))
   refine wpR_nil (QE_then_n (wpC_ret (QE_blk_r ?_)))
   refine QE_then_r (QE_then_r ?_)
   have h := oinr_some h hk_2
   refine QE_blk_r ?_
   refine QE_then_r ?_
   cases h
   exact QE_ret1 rfl rfl ⟨rfl, hS⟩
  have h := if_f h hb_7
  refine wpC_skip (QE_blk_n ?_)
  refine QE_then_n (wpC_region (wpR_run 3 rfl ?_))
  refine wpR_nil ?_
  exact QE_rnd (wpN_le _ (by exact ⟨rfl, rfl, rfl, trivial⟩) (ih_3 (wI (x_1 + 1)) _ _ ⟨rfl, hS⟩ (oinl_some h hk_2)))
 have h := if_f h hb_8
 refine wpC_exit ?_
 refine QE_then_x (QE_then_x ?_)
 have h := oinr_some h hk_2
 refine QE_blk_x ?_
 refine QE_then_n (wpC_seq (wpC_region (wpR_run 1 rfl ?_)))
 refine wpR_nil (QE_then_n (wpC_ret ?_))
 cases h
 exact QE_ret1 rfl rfl ⟨rfl, hS⟩
theorem c_law11_same (w0 : World) (a0_0 : List UInt32) (a0_1 : List UInt32) (a0_2 : Bool) (a1_0 : List UInt32) (a1_1 : List UInt32) (a1_2 : Bool) (va0_0 : Value) (va0_1 : Value) (va1_0 : Value) (va1_1 : Value) (ha0_0 : RP [] w0 e32 va0_0 a0_0) (ha0_1 : RP [] w0 e32 va0_1 a0_1) (ha1_0 : RP [] w0 e32 va1_0 a1_0) (ha1_1 : RP [] w0 e32 va1_1 a1_1) (r : Bool)
  (h : F.law11_same a0_0 a0_1 a0_2 a1_0 a1_1 a1_2 = some r) : Calls Try.prog 14 #[.agg #[va0_0, va0_1, vB a0_2], .agg #[va1_0, va1_1, vB a1_2]] w0 (Ret fun v w => v = vB r ∧ St [] w0 w []) := by
 refine calls_at 24 Try.func14 rfl rfl rfl ?_
 have hS := St.start w0
 refine wpC_le [(0, .agg #[va0_0, va0_1, vB a0_2]), (1, .agg #[va1_0, va1_1, vB a1_2])] ⟨rfl, rfl, trivial⟩ ?_
 unfold F.law11_same at h
 refine wpC_seq (wpC_region (wpR_x (OpX_box (cs := [va0_0, va0_1, vB a0_2]) rfl rfl hS) rfl ?_))
 rintro _ w ⟨b_1, rfl, hS⟩
 refine wpR_x (OpX_box (cs := [va1_0, va1_1, vB a1_2]) rfl rfl hS) rfl ?_
 rintro _ w ⟨b_3, rfl, hS⟩
 refine wpR_run 1 rfl ?_
 refine wpR_nil (QE_then_n (wpC_seq (wpC_region (wpR_v (OpV_fieldB (k := 2) Try.underlying26 rfl rfl nz4 rfl) rfl ?_))))
 refine wpR_v (OpV_ldB Try.underlying4 rfl rfl (hS.bxc 1 rfl 2)) rfl ?_
 refine wpR_v (OpV_fieldB (k := 2) Try.underlying26 rfl rfl nz4 rfl) rfl ?_
 refine wpR_v (OpV_ldB Try.underlying4 rfl rfl (hS.bxc 0 rfl 2)) rfl ?_
 refine wpR_v (OpV_bin rfl rfl (b_beql _ a0_2 a1_2 Try.underlying4 rfl)) rfl ?_
 refine wpR_run 1 rfl ?_
 cases hb_5 : (a0_2 == a1_2)
 case true =>
  have h := if_t h hb_5
  try simp only [hb_5]
  refine wpR_gv (t := 10) rfl rfl (OpV_fieldB (k := 0) Try.underlying26 rfl rfl nz24 rfl) rfl ?_
  refine wpR_gv (t := 10) rfl rfl (OpV_ldB Try.underlying24 rfl rfl (hS.bxc 1 rfl 0)) rfl ?_
  refine wpR_gv (t := 10) rfl rfl (OpV_fieldB (k := 0) Try.underlying26 rfl rfl nz24 rfl) rfl ?_
  refine wpR_gv (t := 10) rfl rfl (OpV_ldB Try.underlying24 rfl rfl (hS.bxc 0 rfl 0)) rfl ?_
  obtain ⟨x_6, hx_6, h⟩ := obind_some h
  refine wpR_gcall (t := 10) rfl rfl (by kernel_rfl) rfl (c_law11_sameNat _ a0_0 a1_0 va0_0 va1_0  (ha0_0.now hS.fr).rp (ha1_0.now hS.fr).rp _ hx_6) rfl ?_
  rintro _ w ⟨rfl, hS1⟩
  have hS := hS.call hS1
  simp only [List.cons_append, List.nil_append] at hS
  refine wpR_run 2 rfl ?_
  cases hb_7 : x_6
  case true =>
   have h := if_t h hb_7
   try simp only [hb_7]
   refine wpR_gv (t := 17) rfl rfl (OpV_fieldB (k := 1) Try.underlying26 rfl rfl nz24 rfl) rfl ?_
   refine wpR_gv (t := 17) rfl rfl (OpV_ldB Try.underlying24 rfl rfl (hS.bxc 1 rfl 1)) rfl ?_
   refine wpR_gv (t := 17) rfl rfl (OpV_fieldB (k := 1) Try.underlying26 rfl rfl nz24 rfl) rfl ?_
   refine wpR_gv (t := 17) rfl rfl (OpV_ldB Try.underlying24 rfl rfl (hS.bxc 0 rfl 1)) rfl ?_
   obtain ⟨x_8, hx_8, h⟩ := obind_some h
   refine wpR_gcall (t := 17) rfl rfl (by kernel_rfl) rfl (c_law11_sameNat _ a0_1 a1_1 va0_1 va1_1  (ha0_1.now hS.fr).rp (ha1_1.now hS.fr).rp _ hx_8) rfl ?_
   rintro _ w ⟨rfl, hS1⟩
   have hS := hS.call hS1
   simp only [List.cons_append, List.nil_append] at hS
   refine wpR_run 2 rfl ?_
   refine wpR_nil (QE_then_n (wpC_ret ?_))
   cases h
   exact QE_ret1 rfl rfl ⟨rfl, hS.pick [] (by decide) rfl⟩
  case false =>
   have h := if_f h hb_7
   try simp only [hb_7]
   refine wpR_run 7 rfl ?_
   refine wpR_nil (QE_then_n (wpC_ret ?_))
   cases h
   exact QE_ret1 rfl rfl ⟨rfl, hS.pick [] (by decide) rfl⟩
 case false =>
  have h := if_f h hb_5
  try simp only [hb_5]
  refine wpR_run 14 rfl ?_
  refine wpR_nil (QE_then_n (wpC_ret ?_))
  cases h
  exact QE_ret1 rfl rfl ⟨rfl, hS.pick [] (by decide) rfl⟩
theorem c_law11_whole (w0 : World) (a0 : List UInt32) (k0 : Nat) (a1 : List UInt32) (va0 : Value) (va1 : Value) (ha0 : RP [] w0 e32 va0 a0) (hk0 : k0 ≤ a0.length) (ha1 : RP [] w0 e32 va1 a1) (r : Bool)
  (h : F.law11_whole a0 k0 a1 = some r) : Calls Try.prog 44 #[slV va0 e32.sz 0 k0, va1] w0 (Ret fun v w => v = vB r ∧ St [] w0 w []) := by
 refine calls_at 30 Try.func44 rfl rfl rfl ?_
 have hS := St.start w0
 refine wpC_le [(0, slV va0 e32.sz 0 k0), (1, va1)] ⟨rfl, rfl, trivial⟩ ?_
 unfold F.law11_whole at h
 refine wpC_seq (wpC_region (wpR_run 1 rfl ?_))
 refine wpR_nil (QE_then_n (wpC_seq (wpC_region (wpR_run 2 rfl ?_))))
 refine wpR_v (OpV_len Try.underlying24 rfl (ha1.now hS.fr)) rfl ?_
 refine wpR_run 1 rfl ?_
 obtain ⟨hg_1, h⟩ := grd_some h
 refine wpR_v (G_slh_room Try.underlying24 ti52 rfl rfl (ha0.now hS.fr) (tkO_of hg_1)) rfl ?_
 refine wpR_run 1 rfl ?_
 refine wpR_nil (QE_then_n (wpC_seq (wpC_seq (wpC_region (wpR_run 1 rfl ?_)))))
 refine wpR_nil (QE_then_n (wpC_block ?_))
 refine wpC_le [(0, slV va0 e32.sz 0 k0), (1, va1), (5, slV va0 e32.sz 0 ((wI ((a1.length : Int) + 40) : Int).toNat)), (6, vI 0)] ⟨rfl, rfl, rfl, rfl, trivial⟩ ?_
 refine loop_ind (F.law11_whole_L1 a0 k0 a1) (fun (s : Int) L w => L = [(0, slV va0 e32.sz 0 k0), (1, va1), (5, slV va0 e32.sz 0 ((wI ((a1.length : Int) + 40) : Int).toNat)), (6, vI s)] ∧ St [] w0 w []) ?_ 0 ⟨rfl, hS⟩ h
 rintro k_10 x_2 L w q_5 hI ih_4 h hk_3
 try dsimp only at hI
 obtain ⟨rfl, hS⟩ := hI
 unfold F.law11_whole_L1 at h
 refine wpC_seq (wpC_seq (wpC_region (wpR_run 2 rfl ?_)))
 refine wpR_nil (QE_then_n ?_)
 refine wpC_cond rfl (fun hb_9 => ?_) (fun hb_9 => ?_)
 ·have h := if_t h hb_9
  refine wpC_skip (QE_then_n (wpC_seq (wpC_block ?_)))
  refine wpC_seq (wpC_region (wpR_run 2 rfl ?_))
  refine wpR_v (OpV_len Try.underlying24 rfl (ha1.now hS.fr)) rfl ?_
  refine wpR_run 2 rfl ?_
  obtain ⟨x_6, hx_6, h⟩ := obind_some h
  refine wpR_v (G_ix_room Try.underlying24 ti52 rfl rfl (ha0.now hS.fr) hg_1.2 hx_6) rfl ?_
  refine wpR_v (G_load Try.underlying52 rfl rfl (ha0.now hS.fr) (getO_take hx_6) rfl) rfl ?_
  refine wpR_run 2 rfl ?_
  refine wpR_v (OpV_conv rfl (cv_i_32 Try.underlying3 Try.underlying52 (wI (7000 + x_2)))) rfl ?_
  refine wpR_v (OpV_bin rfl rfl (b_neq32 _ x_6 (UInt32.ofInt (wI (7000 + x_2))))) rfl ?_
  refine wpR_nil (QE_then_n ?_)
  refine wpC_cond rfl (fun hb_7 => ?_) (fun hb_7 => ?_)
  ·have h := if_t h hb_7
   refine wpC_seq (wpC_region (wpR_run 1 rfl ?_))
   refine wpR_nil (QE_then_n (wpC_ret (QE_blk_r ?_)))
   refine QE_then_r (QE_then_r ?_)
   have h := oinr_some h hk_3
   refine QE_blk_r ?_
   refine QE_then_r ?_
   cases h
   exact QE_ret1 rfl rfl ⟨rfl, hS⟩
  have h := if_f h hb_7
  refine wpC_skip (QE_blk_n ?_)
  refine QE_then_n (wpC_region (wpR_run 3 rfl ?_))
  refine wpR_nil ?_
  exact QE_rnd (wpN_le _ (by exact ⟨rfl, rfl, rfl, rfl, trivial⟩) (ih_4 (wI (x_2 + 1)) _ _ ⟨rfl, hS⟩ (oinl_some h hk_3)))
 have h := if_f h hb_9
 refine wpC_exit ?_
 refine QE_then_x (QE_then_x ?_)
 have h := oinr_some h hk_3
 refine QE_blk_x ?_
 refine QE_then_n (wpC_seq (wpC_region (wpR_run 2 rfl ?_)))
 obtain ⟨x_8, hx_8, h⟩ := obind_some h
 refine wpR_call (by kernel_rfl) rfl (c_law11_sameNat _ (a0.take k0) a1 (slV va0 e32.sz 0 k0) va1  ((ha0.now hS.fr).tk hk0).rp (ha1.now hS.fr).rp _ hx_8) rfl ?_
 rintro _ w ⟨rfl, hS1⟩
 have hS := hS.call hS1
 simp only [List.cons_append, List.nil_append] at hS
 refine wpR_run 1 rfl ?_
 refine wpR_nil (QE_then_n (wpC_ret ?_))
 cases h
 exact QE_ret1 rfl rfl ⟨rfl, hS⟩
theorem c_law11_still (w0 : World) (a0_0 : List UInt32) (k0_0 : Nat) (a0_1 : List UInt32) (k0_1 : Nat) (a0_2 : Bool) (a1_0 : List UInt32) (a1_1 : List UInt32) (a1_2 : Bool) (va0_0 : Value) (va0_1 : Value) (va1_0 : Value) (va1_1 : Value) (ha0_0 : RP [] w0 e32 va0_0 a0_0) (hk0_0 : k0_0 ≤ a0_0.length) (ha0_1 : RP [] w0 e32 va0_1 a0_1) (hk0_1 : k0_1 ≤ a0_1.length) (ha1_0 : RP [] w0 e32 va1_0 a1_0) (ha1_1 : RP [] w0 e32 va1_1 a1_1) (r : Bool)
  (h : F.law11_still a0_0 k0_0 a0_1 k0_1 a0_2 a1_0 a1_1 a1_2 = some r) : Calls Try.prog 20 #[.agg #[slV va0_0 e32.sz 0 k0_0, slV va0_1 e32.sz 0 k0_1, vB a0_2], .agg #[va1_0, va1_1, vB a1_2]] w0 (Ret fun v w => v = vB r ∧ St [] w0 w []) := by
 refine calls_at 24 Try.func20 rfl rfl rfl ?_
 have hS := St.start w0
 refine wpC_le [(0, .agg #[slV va0_0 e32.sz 0 k0_0, slV va0_1 e32.sz 0 k0_1, vB a0_2]), (1, .agg #[va1_0, va1_1, vB a1_2])] ⟨rfl, rfl, trivial⟩ ?_
 unfold F.law11_still at h
 refine wpC_seq (wpC_region (wpR_x (OpX_box (cs := [slV va0_0 e32.sz 0 k0_0, slV va0_1 e32.sz 0 k0_1, vB a0_2]) rfl rfl hS) rfl ?_))
 rintro _ w ⟨b_1, rfl, hS⟩
 refine wpR_x (OpX_box (cs := [va1_0, va1_1, vB a1_2]) rfl rfl hS) rfl ?_
 rintro _ w ⟨b_3, rfl, hS⟩
 refine wpR_run 1 rfl ?_
 refine wpR_nil (QE_then_n (wpC_seq (wpC_region (wpR_v (OpV_fieldB (k := 2) Try.underlying26 rfl rfl nz4 rfl) rfl ?_))))
 refine wpR_v (OpV_ldB Try.underlying4 rfl rfl (hS.bxc 1 rfl 2)) rfl ?_
 refine wpR_v (OpV_fieldB (k := 2) Try.underlying26 rfl rfl nz4 rfl) rfl ?_
 refine wpR_v (OpV_ldB Try.underlying4 rfl rfl (hS.bxc 0 rfl 2)) rfl ?_
 refine wpR_v (OpV_bin rfl rfl (b_beql _ a0_2 a1_2 Try.underlying4 rfl)) rfl ?_
 refine wpR_run 1 rfl ?_
 cases hb_5 : (a0_2 == a1_2)
 case true =>
  have h := if_t h hb_5
  try simp only [hb_5]
  refine wpR_gv (t := 10) rfl rfl (OpV_fieldB (k := 0) Try.underlying26 rfl rfl nz24 rfl) rfl ?_
  refine wpR_gv (t := 10) rfl rfl (OpV_ldB Try.underlying24 rfl rfl (hS.bxc 1 rfl 0)) rfl ?_
  refine wpR_gv (t := 10) rfl rfl (OpV_fieldB (k := 0) Try.underlying26 rfl rfl nz24 rfl) rfl ?_
  refine wpR_gv (t := 10) rfl rfl (OpV_ldB Try.underlying24 rfl rfl (hS.bxc 0 rfl 0)) rfl ?_
  obtain ⟨x_6, hx_6, h⟩ := obind_some h
  refine wpR_gcall (t := 10) rfl rfl (by kernel_rfl) rfl (c_law11_whole _ a0_0 k0_0 a1_0 va0_0 va1_0  (ha0_0.now hS.fr).rp hk0_0 (ha1_0.now hS.fr).rp _ hx_6) rfl ?_
  rintro _ w ⟨rfl, hS1⟩
  have hS := hS.call hS1
  simp only [List.cons_append, List.nil_append] at hS
  refine wpR_run 2 rfl ?_
  cases hb_7 : x_6
  case true =>
   have h := if_t h hb_7
   try simp only [hb_7]
   refine wpR_gv (t := 17) rfl rfl (OpV_fieldB (k := 1) Try.underlying26 rfl rfl nz24 rfl) rfl ?_
   refine wpR_gv (t := 17) rfl rfl (OpV_ldB Try.underlying24 rfl rfl (hS.bxc 1 rfl 1)) rfl ?_
   refine wpR_gv (t := 17) rfl rfl (OpV_fieldB (k := 1) Try.underlying26 rfl rfl nz24 rfl) rfl ?_
   refine wpR_gv (t := 17) rfl rfl (OpV_ldB Try.underlying24 rfl rfl (hS.bxc 0 rfl 1)) rfl ?_
   obtain ⟨x_8, hx_8, h⟩ := obind_some h
   refine wpR_gcall (t := 17) rfl rfl (by kernel_rfl) rfl (c_law11_whole _ a0_1 k0_1 a1_1 va0_1 va1_1  (ha0_1.now hS.fr).rp hk0_1 (ha1_1.now hS.fr).rp _ hx_8) rfl ?_
   rintro _ w ⟨rfl, hS1⟩
   have hS := hS.call hS1
   simp only [List.cons_append, List.nil_append] at hS
   refine wpR_run 2 rfl ?_
   refine wpR_nil (QE_then_n (wpC_ret ?_))
   cases h
   exact QE_ret1 rfl rfl ⟨rfl, hS.pick [] (by decide) rfl⟩
  case false =>
   have h := if_f h hb_7
   try simp only [hb_7]
   refine wpR_run 7 rfl ?_
   refine wpR_nil (QE_then_n (wpC_ret ?_))
   cases h
   exact QE_ret1 rfl rfl ⟨rfl, hS.pick [] (by decide) rfl⟩
 case false =>
  have h := if_f h hb_5
  try simp only [hb_5]
  refine wpR_run 14 rfl ?_
  refine wpR_nil (QE_then_n (wpC_ret ?_))
  cases h
  exact QE_ret1 rfl rfl ⟨rfl, hS.pick [] (by decide) rfl⟩
theorem c_law11_spoil (w0 : World) (a0_0 : List UInt32) (a0_1 : List UInt32) (a0_2 : Bool) (va0_0 : Value) (va0_1 : Value) (S : List Nat) (hS : St S w0 w0 [own e32 va0_0 a0_0, own e32 va0_1 a0_1]) (r : Bool)
  (h : F.law11_spoil a0_0 a0_1 a0_2 = some r) : Calls Try.prog 21 #[.agg #[va0_0, va0_1, vB a0_2]] w0 (Ret fun v w => v = vB r ∧ St S w0 w []) := by
 refine calls_at 97 Try.func21 rfl rfl rfl ?_
 refine wpC_le [(0, .agg #[va0_0, va0_1, vB a0_2])] ⟨rfl, trivial⟩ ?_
 unfold F.law11_spoil at h
 refine wpC_seq (wpC_region (wpR_x (OpX_box (cs := [va0_0, va0_1, vB a0_2]) rfl rfl hS) rfl ?_))
 rintro _ w ⟨b_3, rfl, hS⟩
 refine wpR_run 1 rfl ?_
 refine wpR_nil (QE_then_n (wpC_seq (wpC_seq (wpC_region (wpR_run 1 rfl ?_)))))
 refine wpR_nil (QE_then_n (wpC_block ?_))
 refine wpC_le [(1, pB b_3 0), (3, vI 0)] ⟨rfl, rfl, trivial⟩ ?_
 refine loop_ind (F.law11_spoil_L1 a0_1) (fun (s : Int × List UInt32) L w => L = [(1, pB b_3 0), (3, vI s.1)] ∧ St S w0 w [OE.bx b_3 [va0_0, va0_1, vB a0_2], own e32 va0_0 s.2, own e32 va0_1 a0_1]) ?_ (0, a0_0) ⟨rfl, hS⟩ h
 rintro k_84 ⟨x_5, x_6⟩ L w q_9 hI ih_8 h hk_7
 try dsimp only at hI
 obtain ⟨rfl, hS⟩ := hI
 unfold F.law11_spoil_L1 at h
 refine wpC_seq (wpC_seq (wpC_region (wpR_run 1 rfl ?_)))
 refine wpR_v (OpV_fieldB (k := 0) Try.underlying26 rfl rfl nz24 rfl) rfl ?_
 refine wpR_v (OpV_ldB Try.underlying24 rfl rfl (hS.bxc 0 rfl 0)) rfl ?_
 refine wpR_v (OpV_len Try.underlying24 rfl (hS.ro 1 rfl)) rfl ?_
 refine wpR_run 1 rfl ?_
 refine wpR_nil (QE_then_n ?_)
 refine wpC_cond rfl (fun hb_83 => ?_) (fun hb_83 => ?_)
 ·have h := if_t h hb_83
  refine wpC_skip (QE_then_n (wpC_seq (wpC_block ?_)))
  refine wpC_region (wpR_v (OpV_fieldB (k := 0) Try.underlying26 rfl rfl nz24 rfl) rfl ?_)
  refine wpR_v (OpV_ldB Try.underlying24 rfl rfl (hS.bxc 0 rfl 0)) rfl ?_
  refine wpR_run 1 rfl ?_
  obtain ⟨x_10, hx_10, h⟩ := obind_some h
  refine wpR_v (G_ix Try.underlying24 ti52 rfl rfl (hS.ro 1 rfl) hx_10) rfl ?_
  refine wpR_y (G_storeE (t := 11) ti52 rfl rfl hS (i := 1) rfl hx_10 rfl) ?_
  intro w hS
  obtain ⟨x_11, hx_11, h⟩ := olet_some h
  rw [hx_11] at hS
  refine wpR_nil (QE_blk_n ?_)
  refine QE_then_n (wpC_region (wpR_run 3 rfl ?_))
  refine wpR_nil ?_
  exact QE_rnd (wpN_le _ (by exact ⟨rfl, rfl, trivial⟩) (ih_8 (wI (x_5 + 1), x_11) _ _ ⟨rfl, hS⟩ (oinl_some h hk_7)))
 have h := if_f h hb_83
 refine wpC_exit ?_
 refine QE_then_x (QE_then_x ?_)
 have h := oinr_some h hk_7
 refine QE_blk_x ?_
 refine QE_then_n (wpC_seq (wpC_seq (wpC_region (wpR_run 1 rfl ?_))))
 refine wpR_nil (QE_then_n (wpC_block ?_))
 refine wpC_le [(1, pB b_3 0), (4, vI 0)] ⟨rfl, rfl, trivial⟩ ?_
 refine loop_ind (F.law11_spoil_L2 x_6) (fun (s : Int × List UInt32) L w => L = [(1, pB b_3 0), (4, vI s.1)] ∧ St S w0 w [OE.bx b_3 [va0_0, va0_1, vB a0_2], own e32 va0_0 x_6, own e32 va0_1 s.2]) ?_ (0, a0_1) ⟨rfl, hS⟩ h
 rintro k_82 ⟨x_12, x_13⟩ L w q_16 hI ih_15 h hk_14
 try dsimp only at hI
 obtain ⟨rfl, hS⟩ := hI
 unfold F.law11_spoil_L2 at h
 refine wpC_seq (wpC_seq (wpC_region (wpR_run 1 rfl ?_)))
 refine wpR_v (OpV_fieldB (k := 1) Try.underlying26 rfl rfl nz24 rfl) rfl ?_
 refine wpR_v (OpV_ldB Try.underlying24 rfl rfl (hS.bxc 0 rfl 1)) rfl ?_
 refine wpR_v (OpV_len Try.underlying24 rfl (hS.ro 2 rfl)) rfl ?_
 refine wpR_run 1 rfl ?_
 refine wpR_nil (QE_then_n ?_)
 refine wpC_cond rfl (fun hb_81 => ?_) (fun hb_81 => ?_)
 ·have h := if_t h hb_81
  refine wpC_skip (QE_then_n (wpC_seq (wpC_block ?_)))
  refine wpC_region (wpR_v (OpV_fieldB (k := 1) Try.underlying26 rfl rfl nz24 rfl) rfl ?_)
  refine wpR_v (OpV_ldB Try.underlying24 rfl rfl (hS.bxc 0 rfl 1)) rfl ?_
  refine wpR_run 1 rfl ?_
  obtain ⟨x_17, hx_17, h⟩ := obind_some h
  refine wpR_v (G_ix Try.underlying24 ti52 rfl rfl (hS.ro 2 rfl) hx_17) rfl ?_
  refine wpR_y (G_storeE (t := 12) ti52 rfl rfl hS (i := 2) rfl hx_17 rfl) ?_
  intro w hS
  obtain ⟨x_18, hx_18, h⟩ := olet_some h
  rw [hx_18] at hS
  refine wpR_nil (QE_blk_n ?_)
  refine QE_then_n (wpC_region (wpR_run 3 rfl ?_))
  refine wpR_nil ?_
  exact QE_rnd (wpN_le _ (by exact ⟨rfl, rfl, trivial⟩) (ih_15 (wI (x_12 + 1), x_18) _ _ ⟨rfl, hS⟩ (oinl_some h hk_14)))
 have h := if_f h hb_81
 refine wpC_exit ?_
 refine QE_then_x (QE_then_x ?_)
 have h := oinr_some h hk_14
 refine QE_blk_x ?_
 refine QE_then_n (wpC_seq (wpC_region (wpR_v (OpV_fieldB (k := 0) Try.underlying26 rfl rfl nz24 rfl) rfl ?_)))
 refine wpR_v (OpV_ldB Try.underlying24 rfl rfl (hS.bxc 0 rfl 0)) rfl ?_
 refine wpR_run 1 rfl ?_
 have hA_20 := (hS.ro 1 rfl).tw
 replace hS := hS.twin 1 rfl
 refine wpR_nil (QE_then_n (wpC_seq (wpC_region (wpR_v (OpV_fieldB (k := 1) Try.underlying26 rfl rfl nz24 rfl) rfl ?_))))
 refine wpR_v (OpV_ldB Try.underlying24 rfl rfl (hS.bxc 1 rfl 1)) rfl ?_
 refine wpR_run 1 rfl ?_
 have hA_22 := (hS.ro 3 rfl).tw
 replace hS := hS.twin 3 rfl
 refine wpR_nil (QE_then_n (wpC_seq (wpC_seq (wpC_region (wpR_run 1 rfl ?_)))))
 refine wpR_nil (QE_then_n (wpC_block ?_))
 refine wpC_le [(1, pB b_3 0), (5, va0_0), (6, va0_1), (7, vI 0)] ⟨rfl, rfl, rfl, rfl, trivial⟩ ?_
 refine loop_ind (F.law11_spoil_L3 x_6 x_13) (fun (s : List UInt32 × List UInt32 × Int) L w => ∃ (v_24 : Value) (v_27 : Value) (b_30 : Nat) (b_32 : Nat), L = [(1, pB b_3 0), (5, v_24), (6, v_27), (7, vI s.2.2)] ∧ Tw va0_0 x_6 v_24 s.1 b_30 ∧ Tw va0_1 x_13 v_27 s.2.1 b_32 ∧ St S w0 w [own e32 v_24 s.1, own e32 v_27 s.2.1, OE.bx b_3 [va0_0, va0_1, vB a0_2], twE e32 va0_0 x_6 b_30, twE e32 va0_1 x_13 b_32]) ?_ (x_6, x_13, 0) ⟨va0_0, va0_1, 0, 0, rfl, hA_20, hA_22, (hS.pick [3, 4, 2, 1, 0] (by decide) rfl)⟩ h
 rintro k_80 ⟨x_23, x_26, x_29⟩ L w q_36 hI ih_35 h hk_34
 try dsimp only at hI
 obtain ⟨v_24, v_27, b_30, b_32, rfl, hA_31, hA_33, hS⟩ := hI
 unfold F.law11_spoil_L3 at h
 refine wpC_seq (wpC_seq (wpC_region (wpR_run 2 rfl ?_)))
 refine wpR_nil (QE_then_n ?_)
 refine wpC_cond rfl (fun hb_79 => ?_) (fun hb_79 => ?_)
 ·have h := if_t h hb_79
  refine wpC_skip (QE_then_n (wpC_seq (wpC_block ?_)))
  refine wpC_seq (wpC_region (wpR_run 1 rfl ?_))
  refine wpR_x (OpX_lit (e := e32) (l := ([13] : List UInt32)) (vs := [v32 13]) Try.underlying24 ti52 rfl rfl rfl rfl (by decide) (by decide) hS) rfl ?_
  rintro v_37 w hS
  obtain ⟨x_39, hx_39, h⟩ := obind_some h
  refine wpR_x (G_append_tw Try.underlying24 ti52 rfl rfl rfl hS (i := 1) (j := 4) rfl rfl hA_31 (hS.ro 0 rfl) hx_39) rfl ?_
  rintro v_40 w ⟨b_41, hA_42, hS⟩
  refine wpR_run 1 rfl ?_
  refine wpR_nil (QE_then_n (wpC_region (wpR_run 1 rfl ?_)))
  refine wpR_x (OpX_lit (e := e32) (l := ([14] : List UInt32)) (vs := [v32 14]) Try.underlying24 ti52 rfl rfl rfl rfl (by decide) (by decide) hS) rfl ?_
  rintro v_44 w hS
  obtain ⟨x_46, hx_46, h⟩ := obind_some h
  refine wpR_x (G_append_tw Try.underlying24 ti52 rfl rfl rfl hS (i := 3) (j := 6) rfl rfl hA_33 (hS.ro 0 rfl) hx_46) rfl ?_
  rintro v_47 w ⟨b_48, hA_49, hS⟩
  refine wpR_run 1 rfl ?_
  refine wpR_nil (QE_blk_n ?_)
  refine QE_then_n (wpC_region (wpR_run 3 rfl ?_))
  refine wpR_nil ?_
  exact QE_rnd (wpN_le _ (by exact ⟨rfl, rfl, rfl, rfl, trivial⟩) (ih_35 (x_39, x_46, wI (x_29 + 1)) _ _ ⟨v_40, v_47, b_41, b_48, rfl, hA_42, hA_49, (hS.pick [2, 3, 4, 5, 6] (by decide) rfl)⟩ (oinl_some h hk_34)))
 have h := if_f h hb_79
 refine wpC_exit ?_
 refine QE_then_x (QE_then_x ?_)
 have h := oinr_some h hk_34
 refine QE_blk_x ?_
 refine QE_then_n (wpC_seq (wpC_seq (wpC_region (wpR_run 1 rfl ?_))))
 refine wpR_nil (QE_then_n (wpC_block ?_))
 refine wpC_le [(1, pB b_3 0), (5, v_24), (6, v_27), (8, vI 0)] ⟨rfl, rfl, rfl, rfl, trivial⟩ ?_
 refine loop_ind (F.law11_spoil_L4 x_6 x_13 x_23 x_26) (fun (s : Int) L w => L = [(1, pB b_3 0), (5, v_24), (6, v_27), (8, vI s)] ∧ St S w0 w [OE.bx b_3 [va0_0, va0_1, vB a0_2], twE e32 va0_0 x_6 b_30, own e32 v_24 x_23, twE e32 va0_1 x_13 b_32, own e32 v_27 x_26]) ?_ 0 ⟨rfl, (hS.pick [2, 3, 0, 4, 1] (by decide) rfl)⟩ h
 rintro k_78 x_51 L w q_54 hI ih_53 h hk_52
 try dsimp only at hI
 obtain ⟨rfl, hS⟩ := hI
 unfold F.law11_spoil_L4 at h
 refine wpC_seq (wpC_seq (wpC_region (wpR_run 1 rfl ?_)))
 refine wpR_v (OpV_fieldB (k := 0) Try.underlying26 rfl rfl nz24 rfl) rfl ?_
 refine wpR_v (OpV_ldB Try.underlying24 rfl rfl (hS.bxc 0 rfl 0)) rfl ?_
 refine wpR_v (OpV_len Try.underlying24 rfl (hS.twro hA_31 2 1 rfl rfl)) rfl ?_
 refine wpR_run 1 rfl ?_
 refine wpR_nil (QE_then_n ?_)
 refine wpC_cond rfl (fun hb_77 => ?_) (fun hb_77 => ?_)
 ·have h := if_t h hb_77
  refine wpC_skip (QE_then_n (wpC_seq (wpC_block ?_)))
  refine wpC_seq (wpC_region (wpR_v (OpV_fieldB (k := 0) Try.underlying26 rfl rfl nz24 rfl) rfl ?_))
  refine wpR_v (OpV_ldB Try.underlying24 rfl rfl (hS.bxc 0 rfl 0)) rfl ?_
  refine wpR_run 1 rfl ?_
  obtain ⟨x_55, hx_55, h⟩ := obind_some h
  refine wpR_v (G_ix Try.underlying24 ti52 rfl rfl (hS.twro hA_31 2 1 rfl rfl) hx_55) rfl ?_
  refine wpR_v (G_load Try.underlying52 rfl rfl (hS.twro hA_31 2 1 rfl rfl) hx_55 rfl) rfl ?_
  refine wpR_v (OpV_bin rfl rfl (b_neq32 _ x_55 11)) rfl ?_
  refine wpR_nil (QE_then_n ?_)
  refine wpC_cond rfl (fun hb_56 => ?_) (fun hb_56 => ?_)
  ·have h := if_t h hb_56
   refine wpC_seq (wpC_region (wpR_run 1 rfl ?_))
   refine wpR_nil (QE_then_n (wpC_ret (QE_blk_r ?_)))
   refine QE_then_r (QE_then_r ?_)
   have h := oinr_some h hk_52
   refine QE_blk_r ?_
   refine QE_then_r ?_
   cases h
   exact QE_ret1 rfl rfl ⟨rfl, hS.pick [] (by decide) rfl⟩
  have h := if_f h hb_56
  refine wpC_skip (QE_blk_n ?_)
  refine QE_then_n (wpC_region (wpR_run 3 rfl ?_))
  refine wpR_nil ?_
  exact QE_rnd (wpN_le _ (by exact ⟨rfl, rfl, rfl, rfl, trivial⟩) (ih_53 (wI (x_51 + 1)) _ _ ⟨rfl, hS⟩ (oinl_some h hk_52)))
 have h := if_f h hb_77
 refine wpC_exit ?_
 refine QE_then_x (QE_then_x ?_)
 have h := oinr_some h hk_52
 refine QE_blk_x ?_
 refine QE_then_n (wpC_seq (wpC_seq (wpC_region (wpR_run 1 rfl ?_))))
 refine wpR_nil (QE_then_n (wpC_block ?_))
 refine wpC_le [(1, pB b_3 0), (5, v_24), (6, v_27), (9, vI 0)] ⟨rfl, rfl, rfl, rfl, trivial⟩ ?_
 refine loop_ind (F.law11_spoil_L5 x_13 x_6 x_23 x_26) (fun (s : Int) L w => L = [(1, pB b_3 0), (5, v_24), (6, v_27), (9, vI s)] ∧ St S w0 w [OE.bx b_3 [va0_0, va0_1, vB a0_2], twE e32 va0_0 x_6 b_30, own e32 v_24 x_23, twE e32 va0_1 x_13 b_32, own e32 v_27 x_26]) ?_ 0 ⟨rfl, hS⟩ h
 rintro k_76 x_57 L w q_60 hI ih_59 h hk_58
 try dsimp only at hI
 obtain ⟨rfl, hS⟩ := hI
 unfold F.law11_spoil_L5 at h
 refine wpC_seq (wpC_seq (wpC_region (wpR_run 1 rfl ?_)))
 refine wpR_v (OpV_fieldB (k := 1) Try.underlying26 rfl rfl nz24 rfl) rfl ?_
 refine wpR_v (OpV_ldB Try.underlying24 rfl rfl (hS.bxc 0 rfl 1)) rfl ?_
 refine wpR_v (OpV_len Try.underlying24 rfl (hS.twro hA_33 4 3 rfl rfl)) rfl ?_
 refine wpR_run 1 rfl ?_
 refine wpR_nil (QE_then_n ?_)
 refine wpC_cond rfl (fun hb_75 => ?_) (fun hb_75 => ?_)
 ·have h := if_t h hb_75
  refine wpC_skip (QE_then_n (wpC_seq (wpC_block ?_)))
  refine wpC_seq (wpC_region (wpR_v (OpV_fieldB (k := 1) Try.underlying26 rfl rfl nz24 rfl) rfl ?_))
  refine wpR_v (OpV_ldB Try.underlying24 rfl rfl (hS.bxc 0 rfl 1)) rfl ?_
  refine wpR_run 1 rfl ?_
  obtain ⟨x_61, hx_61, h⟩ := obind_some h
  refine wpR_v (G_ix Try.underlying24 ti52 rfl rfl (hS.twro hA_33 4 3 rfl rfl) hx_61) rfl ?_
  refine wpR_v (G_load Try.underlying52 rfl rfl (hS.twro hA_33 4 3 rfl rfl) hx_61 rfl) rfl ?_
  refine wpR_v (OpV_bin rfl rfl (b_neq32 _ x_61 12)) rfl ?_
  refine wpR_nil (QE_then_n ?_)
  refine wpC_cond rfl (fun hb_62 => ?_) (fun hb_62 => ?_)
  ·have h := if_t h hb_62
   refine wpC_seq (wpC_region (wpR_run 1 rfl ?_))
   refine wpR_nil (QE_then_n (wpC_ret (QE_blk_r ?_)))
   refine QE_then_r (QE_then_r ?_)
   have h := oinr_some h hk_58
   refine QE_blk_r ?_
   refine QE_then_r ?_
   cases h
   exact QE_ret1 rfl rfl ⟨rfl, hS.pick [] (by decide) rfl⟩
  have h := if_f h hb_62
  refine wpC_skip (QE_blk_n ?_)
  refine QE_then_n (wpC_region (wpR_run 3 rfl ?_))
  refine wpR_nil ?_
  exact QE_rnd (wpN_le _ (by exact ⟨rfl, rfl, rfl, rfl, trivial⟩) (ih_59 (wI (x_57 + 1)) _ _ ⟨rfl, hS⟩ (oinl_some h hk_58)))
 have h := if_f h hb_75
 refine wpC_exit ?_
 refine QE_then_x (QE_then_x ?_)
 have h := oinr_some h hk_58
 refine QE_blk_x ?_
 refine QE_then_n (wpC_seq (wpC_seq (wpC_region (wpR_run 1 rfl ?_))))
 refine wpR_nil (QE_then_n (wpC_block ?_))
 refine wpC_le [(1, pB b_3 0), (5, v_24), (6, v_27), (10, vI 0)] ⟨rfl, rfl, rfl, rfl, trivial⟩ ?_
 refine loop_ind (F.law11_spoil_L6 x_6 x_13 x_23 x_26) (fun (s : Int) L w => L = [(1, pB b_3 0), (5, v_24), (6, v_27), (10, vI s)] ∧ St S w0 w [OE.bx b_3 [va0_0, va0_1, vB a0_2], twE e32 va0_0 x_6 b_30, own e32 v_24 x_23, twE e32 va0_1 x_13 b_32, own e32 v_27 x_26]) ?_ 0 ⟨rfl, hS⟩ h
 rintro k_74 x_63 L w q_66 hI ih_65 h hk_64
 try dsimp only at hI
 obtain ⟨rfl, hS⟩ := hI
 unfold F.law11_spoil_L6 at h
 refine wpC_seq (wpC_seq (wpC_region (wpR_run 2 rfl ?_)))
 refine wpR_nil (QE_then_n ?_)
 refine wpC_cond rfl (fun hb_73 => ?_) (fun hb_73 => ?_)
 ·have h := if_t h hb_73
  refine wpC_skip (QE_then_n (wpC_seq (wpC_block ?_)))
  refine seq_join (r := q_66) (fun (g : Bool) L w => L = [(1, pB b_3 0), (5, v_24), (6, v_27), (10, vI x_63), (96, vB g)] ∧ St S w0 w [OE.bx b_3 [va0_0, va0_1, vB a0_2], twE e32 va0_0 x_6 b_30, own e32 v_24 x_23, twE e32 va0_1 x_13 b_32, own e32 v_27 x_26]) (F.law11_spoil_K1 x_63) ?_ ?_
  rotate_left
  ·intro hK_71
   refine wpC_region (wpR_run 1 rfl ?_)
   refine wpR_v (OpV_fieldB (k := 0) Try.underlying26 rfl rfl nz24 rfl) rfl ?_
   refine wpR_v (OpV_ldB Try.underlying24 rfl rfl (hS.bxc 0 rfl 0)) rfl ?_
   refine wpR_v (OpV_len Try.underlying24 rfl (hS.twro hA_31 2 1 rfl rfl)) rfl ?_
   refine wpR_run 2 rfl ?_
   obtain ⟨x_67, hx_67, h⟩ := obind_some h
   refine wpR_v (G_ix Try.underlying24 ti52 rfl rfl (hS.ro 2 rfl) hx_67) rfl ?_
   refine wpR_v (G_load Try.underlying52 rfl rfl (hS.ro 2 rfl) hx_67 rfl) rfl ?_
   refine wpR_v (OpV_bin rfl rfl (b_neq32 _ x_67 13)) rfl ?_
   refine wpR_run 1 rfl ?_
   cases hb_68 : (x_67 != 13)
   case true =>
    have h := if_t h hb_68
    try simp only [hb_68]
    refine wpR_run 10 rfl ?_
    refine wpR_nil (QE_then_n ?_)
    exact wpC_le _ (by exact ⟨rfl, rfl, rfl, rfl, rfl, trivial⟩) (hK_71 true _ _ ⟨rfl, hS⟩ h)
   case false =>
    have h := if_f h hb_68
    try simp only [hb_68]
    refine wpR_run 1 rfl ?_
    refine wpR_gv (t := 86) rfl rfl (OpV_fieldB (k := 1) Try.underlying26 rfl rfl nz24 rfl) rfl ?_
    refine wpR_gv (t := 86) rfl rfl (OpV_ldB Try.underlying24 rfl rfl (hS.bxc 0 rfl 1)) rfl ?_
    refine wpR_gv (t := 86) rfl rfl (OpV_len Try.underlying24 rfl (hS.twro hA_33 4 3 rfl rfl)) rfl ?_
    refine wpR_run 2 rfl ?_
    obtain ⟨x_69, hx_69, h⟩ := obind_some h
    refine wpR_gv (t := 86) rfl rfl (G_ix Try.underlying24 ti52 rfl rfl (hS.ro 4 rfl) hx_69) rfl ?_
    refine wpR_gv (t := 86) rfl rfl (G_load Try.underlying52 rfl rfl (hS.ro 4 rfl) hx_69 rfl) rfl ?_
    refine wpR_gv (t := 86) rfl rfl (OpV_bin rfl rfl (b_neq32 _ x_69 14)) rfl ?_
    refine wpR_run 1 rfl ?_
    refine wpR_nil (QE_then_n ?_)
    exact wpC_le _ (by exact ⟨rfl, rfl, rfl, rfl, rfl, trivial⟩) (hK_71 (x_69 != 14) _ _ ⟨rfl, hS⟩ h)
  rintro x_70 L w hJ h
  try dsimp only at hJ
  obtain ⟨rfl, hS⟩ := hJ
  unfold F.law11_spoil_K1 at h
  refine wpC_cond rfl (fun hb_72 => ?_) (fun hb_72 => ?_)
  ·have h := if_t h hb_72
   refine wpC_seq (wpC_region (wpR_run 1 rfl ?_))
   refine wpR_nil (QE_then_n (wpC_ret (QE_blk_r ?_)))
   refine QE_then_r (QE_then_r ?_)
   have h := oinr_some h hk_64
   refine QE_blk_r ?_
   refine QE_then_r ?_
   cases h
   exact QE_ret1 rfl rfl ⟨rfl, hS.pick [] (by decide) rfl⟩
  have h := if_f h hb_72
  refine wpC_skip (QE_blk_n ?_)
  refine QE_then_n (wpC_region (wpR_run 3 rfl ?_))
  refine wpR_nil ?_
  exact QE_rnd (wpN_le _ (by exact ⟨rfl, rfl, rfl, rfl, trivial⟩) (ih_65 (wI (x_63 + 1)) _ _ ⟨rfl, hS⟩ (oinl_some h hk_64)))
 have h := if_f h hb_73
 refine wpC_exit ?_
 refine QE_then_x (QE_then_x ?_)
 have h := oinr_some h hk_64
 refine QE_blk_x ?_
 refine QE_then_n (wpC_seq (wpC_region (wpR_run 1 rfl ?_)))
 refine wpR_nil (QE_then_n (wpC_ret ?_))
 cases h
 exact QE_ret1 rfl rfl ⟨rfl, hS.pick [] (by decide) rfl⟩
theorem c_law11_CurveKnows (w0 : World) (a0 : Int) (a1_0 : List UInt32) (a1_1 : List UInt32) (a1_2 : Bool) (va1_0 : Value) (va1_1 : Value) (ha1_0 : RP [] w0 e32 va1_0 a1_0) (ha1_1 : RP [] w0 e32 va1_1 a1_1) (r : Bool)
  (h : F.law11_CurveKnows a0 a1_0 a1_1 a1_2 = some r) : Calls Try.prog 3 #[vI a0, .agg #[va1_0, va1_1, vB a1_2]] w0 (Ret fun v w => v = vB r ∧ St [] w0 w []) := by
 refine calls_at 126 Try.func3 rfl rfl rfl ?_
 have hS := St.start w0
 refine wpC_le [(0, vI a0), (1, .agg #[va1_0, va1_1, vB a1_2])] ⟨rfl, rfl, trivial⟩ ?_
 unfold F.law11_CurveKnows at h
 refine wpC_seq (wpC_region (wpR_x (OpX_box (cs := [va1_0, va1_1, vB a1_2]) rfl rfl hS) rfl ?_))
 rintro _ w ⟨b_1, rfl, hS⟩
 refine wpR_run 1 rfl ?_
 refine wpR_nil (QE_then_n (wpC_seq (wpC_region (wpR_v (OpV_ldBs (us := [va1_0, va1_1, vB a1_2]) Try.underlying26 rfl sz26 rfl (hS.bxs 0 rfl rfl)) rfl ?_))))
 obtain ⟨x_3, hx_3, h⟩ := obind_some h
 refine wpR_call (by kernel_rfl) rfl (c_law11_lent _ a1_0 a1_1 a1_2 va1_0 va1_1  (ha1_0.now hS.fr).rp (ha1_1.now hS.fr).rp _ hx_3) rfl ?_
 rintro _ w ⟨v_4, v_7, rfl, hk_6, hk_9, hS1⟩
 have hS := hS.call hS1
 simp only [List.cons_append, List.nil_append] at hS
 refine wpR_x (OpX_alloc (cs := [.slice none 0 0, .slice none 0 0, vB false]) tz26 rfl hS) rfl ?_
 rintro _ w ⟨b_10, rfl, hS⟩
 refine wpR_y (OpY_stB (i := 0) (us := [slV v_4 e32.sz 0 x_3.1.2, slV v_7 e32.sz 0 x_3.2.1.2, vB x_3.2.2]) rfl sz26 rfl rfl rfl ⟨((hS.ro 1 rfl).tk hk_6).one, ((hS.ro 2 rfl).tk hk_9).one, rfl, trivial⟩ rfl hS) ?_
 intro w hS
 replace hS : St _ _ w [OE.bx b_10 [slV v_4 e32.sz 0 x_3.1.2, slV v_7 e32.sz 0 x_3.2.1.2, vB x_3.2.2], own e32 v_4 x_3.1.1, own e32 v_7 x_3.2.1.1, OE.bx b_1 [va1_0, va1_1, vB a1_2]] := hS
 refine wpR_nil (QE_then_n (wpC_seq (wpC_region (wpR_run 1 rfl ?_))))
 obtain ⟨x_12, hx_12, h⟩ := obind_some h
 refine wpR_call (by kernel_rfl) rfl (c_curve_Field _ a0    _ hx_12) rfl ?_
 rintro v_13 w hS1
 have hS := hS.call hS1
 simp only [List.cons_append, List.nil_append] at hS
 refine wpR_run 1 rfl ?_
 refine wpR_nil (QE_then_n (wpC_seq (wpC_region (wpR_run 1 rfl ?_))))
 obtain ⟨x_15, hx_15, h⟩ := obind_some h
 refine wpR_call (by kernel_rfl) rfl (c_curve_Order _ a0    _ hx_15) rfl ?_
 rintro v_16 w hS1
 have hS := hS.call hS1
 simp only [List.cons_append, List.nil_append] at hS
 refine wpR_run 1 rfl ?_
 refine wpR_nil (QE_then_n (wpC_seq (wpC_region (wpR_run 1 rfl ?_))))
 obtain ⟨x_18, hx_18, h⟩ := obind_some h
 refine wpR_call (by kernel_rfl) rfl (c_curve_Base _ a0    _ hx_18) rfl ?_
 rintro _ w ⟨v_19, v_21, rfl, hS1⟩
 have hS := hS.call hS1
 simp only [List.cons_append, List.nil_append] at hS
 refine wpR_x (OpX_alloc (cs := [.slice none 0 0, .slice none 0 0, vB false]) tz26 rfl hS) rfl ?_
 rintro _ w ⟨b_23, rfl, hS⟩
 refine wpR_y (OpY_stB (i := 0) (us := [v_19, v_21, vB x_18.2.2]) rfl sz26 rfl rfl rfl ⟨(hS.ro 1 rfl).one, (hS.ro 2 rfl).one, rfl, trivial⟩ rfl hS) ?_
 intro w hS
 replace hS : St _ _ w [OE.bx b_23 [v_19, v_21, vB x_18.2.2], own e32 v_19 x_18.1, own e32 v_21 x_18.2.1, own e32 v_16 x_15, own e32 v_13 x_12, OE.bx b_10 [slV v_4 e32.sz 0 x_3.1.2, slV v_7 e32.sz 0 x_3.2.1.2, vB x_3.2.2], own e32 v_4 x_3.1.1, own e32 v_7 x_3.2.1.1, OE.bx b_1 [va1_0, va1_1, vB a1_2]] := hS
 refine wpR_nil (QE_then_n (wpC_seq (wpC_region (wpR_run 1 rfl ?_))))
 obtain ⟨x_25, hx_25, h⟩ := obind_some h
 refine wpR_call (by kernel_rfl) rfl (c_curve_Field _ a0    _ hx_25) rfl ?_
 rintro v_26 w hS1
 have hS := hS.call hS1
 simp only [List.cons_append, List.nil_append] at hS
 refine wpR_run 1 rfl ?_
 refine wpR_nil (QE_then_n (wpC_seq (wpC_region (wpR_run 1 rfl ?_))))
 obtain ⟨x_28, hx_28, h⟩ := obind_some h
 refine wpR_call (by kernel_rfl) rfl (c_curve_Order _ a0    _ hx_28) rfl ?_
 rintro v_29 w hS1
 have hS := hS.call hS1
 simp only [List.cons_append, List.nil_append] at hS
 refine wpR_run 1 rfl ?_
 refine wpR_nil (QE_then_n (wpC_seq (wpC_region (wpR_run 1 rfl ?_))))
 obtain ⟨x_31, hx_31, h⟩ := obind_some h
 refine wpR_call (by kernel_rfl) rfl (c_curve_Base _ a0    _ hx_31) rfl ?_
 rintro _ w ⟨v_32, v_34, rfl, hS1⟩
 have hS := hS.call hS1
 simp only [List.cons_append, List.nil_append] at hS
 refine wpR_x (OpX_alloc (cs := [.slice none 0 0, .slice none 0 0, vB false]) tz26 rfl hS) rfl ?_
 rintro _ w ⟨b_36, rfl, hS⟩
 refine wpR_y (OpY_stB (i := 0) (us := [v_32, v_34, vB x_31.2.2]) rfl sz26 rfl rfl rfl ⟨(hS.ro 1 rfl).one, (hS.ro 2 rfl).one, rfl, trivial⟩ rfl hS) ?_
 intro w hS
 replace hS : St _ _ w [OE.bx b_36 [v_32, v_34, vB x_31.2.2], own e32 v_32 x_31.1, own e32 v_34 x_31.2.1, own e32 v_29 x_28, own e32 v_26 x_25, OE.bx b_23 [v_19, v_21, vB x_18.2.2], own e32 v_19 x_18.1, own e32 v_21 x_18.2.1, own e32 v_16 x_15, own e32 v_13 x_12, OE.bx b_10 [slV v_4 e32.sz 0 x_3.1.2, slV v_7 e32.sz 0 x_3.2.1.2, vB x_3.2.2], own e32 v_4 x_3.1.1, own e32 v_7 x_3.2.1.1, OE.bx b_1 [va1_0, va1_1, vB a1_2]] := hS
 refine wpR_nil (QE_then_n (wpC_seq ?_))
 refine seq_join (r := r) (fun (g : Bool) L w => L = [(0, vI a0), (3, pB b_1 0), (5, pB b_10 0), (6, v_13), (7, v_16), (8, pB b_23 0), (9, v_26), (10, v_29), (11, pB b_36 0), (67, vB g)] ∧ St [] w0 w [OE.bx b_1 [va1_0, va1_1, vB a1_2], OE.bx b_10 [slV v_4 e32.sz 0 x_3.1.2, slV v_7 e32.sz 0 x_3.2.1.2, vB x_3.2.2], own e32 v_4 x_3.1.1, own e32 v_7 x_3.2.1.1, own e32 v_13 x_12, own e32 v_16 x_15, OE.bx b_23 [v_19, v_21, vB x_18.2.2], own e32 v_19 x_18.1, own e32 v_21 x_18.2.1, own e32 v_26 x_25, own e32 v_29 x_28, OE.bx b_36 [v_32, v_34, vB x_31.2.2], own e32 v_32 x_31.1, own e32 v_34 x_31.2.1]) (F.law11_CurveKnows_K1 x_12 x_15 x_18 a0 x_25 x_28 x_31 a1_0 a1_1 a1_2 x_3) ?_ ?_
 rotate_left
 ·intro hK_63
  refine wpC_regionT (fun w' => St [] w0 w' [OE.bx b_36 [v_32, v_34, vB x_31.2.2], own e32 v_32 x_31.1, own e32 v_34 x_31.2.1, own e32 v_29 x_28, own e32 v_26 x_25, OE.bx b_23 [v_19, v_21, vB x_18.2.2], own e32 v_19 x_18.1, own e32 v_21 x_18.2.1, own e32 v_16 x_15, own e32 v_13 x_12, OE.bx b_10 [slV v_4 e32.sz 0 x_3.1.2, slV v_7 e32.sz 0 x_3.2.1.2, vB x_3.2.2], own e32 v_4 x_3.1.1, own e32 v_7 x_3.2.1.1, OE.bx b_1 [va1_0, va1_1, vB a1_2]]) (fun i => !([2, 3, 8, 9, 15, 16, 21, 23, 29, 32, 38].contains i)) hmix (fun _ _ _ hf => hf.2) (fun _ _ hf => hf) (by kernel_rfl) ?_
  have hS := hS.drew
  show lxE _ _ _ _ _ _ _ [0, 1, 2, 3, 4, 5, 6, 7, 8, 9, 10, 11, 12, 13, 14, 15, 16, 17, 18, 19, 20, 21, 22, 23, 24, 25, 26, 27, 28, 29, 30, 31, 32, 33, 34, 35, 36, 37, 38, 39, 40] _ _
  refine lxE_v hS rfl rfl (fun w hF => OpV_move rfl) rfl ?_
  refine lxE_v hS rfl rfl (fun w hF => OpV_move rfl) rfl ?_
  obtain ⟨x_38, hx_38, h⟩ := obind_some h
  refine lxE_call hS rfl rfl (by kernel_rfl) rfl (c_ref11_Field _ a0    _ hx_38) rfl ?_
  rintro v_39 w hS1
  have hS := hS.call hS1
  simp only [List.cons_append, List.nil_append] at hS
  obtain ⟨x_41, hx_41, h⟩ := obind_some h
  refine lxE_call (hS.pick [1, 2, 3, 4, 5, 6, 7, 8, 9, 10, 11, 12, 13, 14] (by decide) rfl) rfl rfl (by kernel_rfl) rfl (c_law11_sameNat _ x_12 x_38 v_13 v_39  (hS.ro 10 rfl).rp (hS.ro 0 rfl).rp _ hx_41) rfl ?_
  rintro _ w ⟨rfl, hS1⟩
  have hS := hS.call hS1
  simp only [List.cons_append, List.nil_append] at hS
  refine lxE_v (hS.pick [1, 2, 3, 4, 5, 6, 7, 8, 9, 10, 11, 12, 13, 14] (by decide) rfl) rfl rfl (fun w hF => OpV_un rfl (u_not x_41)) rfl ?_
  refine lxE_v (hS.pick [1, 2, 3, 4, 5, 6, 7, 8, 9, 10, 11, 12, 13, 14] (by decide) rfl) rfl rfl (fun w hF => OpV_move rfl) rfl ?_
  cases hb_42 : (!x_41)
  case true =>
   have h := if_t h hb_42
   try simp only [hb_42]
   refine lxE_gskip (b := true) (t := 32) (hS.pick [1, 2, 3, 4, 5, 6, 7, 8, 9, 10, 11, 12, 13, 14] (by decide) rfl) rfl rfl rfl rfl rfl rfl ?_
   refine lxE_gskip (b := true) (t := 32) (hS.pick [1, 2, 3, 4, 5, 6, 7, 8, 9, 10, 11, 12, 13, 14] (by decide) rfl) rfl rfl rfl rfl rfl rfl ?_
   refine lxE_gskipL (b := true) (t := 32) (hS.pick [1, 2, 3, 4, 5, 6, 7, 8, 9, 10, 11, 12, 13, 14] (by decide) rfl) rfl rfl rfl rfl rfl rfl ?_
   refine lxE_gskipL (b := true) (t := 32) (hS.pick [1, 2, 3, 4, 5, 6, 7, 8, 9, 10, 11, 12, 13, 14] (by decide) rfl) rfl rfl rfl rfl rfl rfl ?_
   refine lxE_gskip (b := true) (t := 32) (hS.pick [1, 2, 3, 4, 5, 6, 7, 8, 9, 10, 11, 12, 13, 14] (by decide) rfl) rfl rfl rfl rfl rfl rfl ?_
   refine lxE_v (hS.pick [1, 2, 3, 4, 5, 6, 7, 8, 9, 10, 11, 12, 13, 14] (by decide) rfl) rfl rfl (fun w hF => OpV_pickT rfl rfl) rfl ?_
   refine lxE_v (hS.pick [1, 2, 3, 4, 5, 6, 7, 8, 9, 10, 11, 12, 13, 14] (by decide) rfl) rfl rfl (fun w hF => OpV_move rfl) rfl ?_
   refine lxE_gskip (b := true) (t := 39) (hS.pick [1, 2, 3, 4, 5, 6, 7, 8, 9, 10, 11, 12, 13, 14] (by decide) rfl) rfl rfl rfl rfl rfl rfl ?_
   refine lxE_gskip (b := true) (t := 39) (hS.pick [1, 2, 3, 4, 5, 6, 7, 8, 9, 10, 11, 12, 13, 14] (by decide) rfl) rfl rfl rfl rfl rfl rfl ?_
   refine lxE_gskipL (b := true) (t := 39) (hS.pick [1, 2, 3, 4, 5, 6, 7, 8, 9, 10, 11, 12, 13, 14] (by decide) rfl) rfl rfl rfl rfl rfl rfl ?_
   refine lxE_gskipL (b := true) (t := 39) (hS.pick [1, 2, 3, 4, 5, 6, 7, 8, 9, 10, 11, 12, 13, 14] (by decide) rfl) rfl rfl rfl rfl rfl rfl ?_
   refine lxE_gskip (b := true) (t := 39) (hS.pick [1, 2, 3, 4, 5, 6, 7, 8, 9, 10, 11, 12, 13, 14] (by decide) rfl) rfl rfl rfl rfl rfl rfl ?_
   refine lxE_v (hS.pick [1, 2, 3, 4, 5, 6, 7, 8, 9, 10, 11, 12, 13, 14] (by decide) rfl) rfl rfl (fun w hF => OpV_pickT rfl rfl) rfl ?_
   refine lxE_v (hS.pick [1, 2, 3, 4, 5, 6, 7, 8, 9, 10, 11, 12, 13, 14] (by decide) rfl) rfl rfl (fun w hF => OpV_move rfl) rfl ?_
   refine lxE_gskip (b := true) (t := 46) (hS.pick [1, 2, 3, 4, 5, 6, 7, 8, 9, 10, 11, 12, 13, 14] (by decide) rfl) rfl rfl rfl rfl rfl rfl ?_
   refine lxE_gskipL (b := true) (t := 46) (hS.pick [1, 2, 3, 4, 5, 6, 7, 8, 9, 10, 11, 12, 13, 14] (by decide) rfl) rfl rfl rfl rfl rfl rfl ?_
   refine lxE_gskip (b := true) (t := 46) (hS.pick [1, 2, 3, 4, 5, 6, 7, 8, 9, 10, 11, 12, 13, 14] (by decide) rfl) rfl rfl rfl rfl rfl rfl ?_
   refine lxE_gskipL (b := true) (t := 46) (hS.pick [1, 2, 3, 4, 5, 6, 7, 8, 9, 10, 11, 12, 13, 14] (by decide) rfl) rfl rfl rfl rfl rfl rfl ?_
   refine lxE_gskip (b := true) (t := 46) (hS.pick [1, 2, 3, 4, 5, 6, 7, 8, 9, 10, 11, 12, 13, 14] (by decide) rfl) rfl rfl rfl rfl rfl rfl ?_
   refine lxE_v (hS.pick [1, 2, 3, 4, 5, 6, 7, 8, 9, 10, 11, 12, 13, 14] (by decide) rfl) rfl rfl (fun w hF => OpV_pickT rfl rfl) rfl ?_
   refine lxE_v (hS.pick [1, 2, 3, 4, 5, 6, 7, 8, 9, 10, 11, 12, 13, 14] (by decide) rfl) rfl rfl (fun w hF => OpV_move rfl) rfl ?_
   refine lxE_gskip (b := true) (t := 53) (hS.pick [1, 2, 3, 4, 5, 6, 7, 8, 9, 10, 11, 12, 13, 14] (by decide) rfl) rfl rfl rfl rfl rfl rfl ?_
   refine lxE_gskip (b := true) (t := 53) (hS.pick [1, 2, 3, 4, 5, 6, 7, 8, 9, 10, 11, 12, 13, 14] (by decide) rfl) rfl rfl rfl rfl rfl rfl ?_
   refine lxE_gskipL (b := true) (t := 53) (hS.pick [1, 2, 3, 4, 5, 6, 7, 8, 9, 10, 11, 12, 13, 14] (by decide) rfl) rfl rfl rfl rfl rfl rfl ?_
   refine lxE_gskip (b := true) (t := 53) (hS.pick [1, 2, 3, 4, 5, 6, 7, 8, 9, 10, 11, 12, 13, 14] (by decide) rfl) rfl rfl rfl rfl rfl rfl ?_
   refine lxE_gskip (b := true) (t := 53) (hS.pick [1, 2, 3, 4, 5, 6, 7, 8, 9, 10, 11, 12, 13, 14] (by decide) rfl) rfl rfl rfl rfl rfl rfl ?_
   refine lxE_gskipL (b := true) (t := 53) (hS.pick [1, 2, 3, 4, 5, 6, 7, 8, 9, 10, 11, 12, 13, 14] (by decide) rfl) rfl rfl rfl rfl rfl rfl ?_
   refine lxE_gskip (b := true) (t := 53) (hS.pick [1, 2, 3, 4, 5, 6, 7, 8, 9, 10, 11, 12, 13, 14] (by decide) rfl) rfl rfl rfl rfl rfl rfl ?_
   refine lxE_v (hS.pick [1, 2, 3, 4, 5, 6, 7, 8, 9, 10, 11, 12, 13, 14] (by decide) rfl) rfl rfl (fun w hF => OpV_pickT rfl rfl) rfl ?_
   refine lxE_v (hS.pick [1, 2, 3, 4, 5, 6, 7, 8, 9, 10, 11, 12, 13, 14] (by decide) rfl) rfl rfl (fun w hF => OpV_move rfl) rfl ?_
   refine lxE_gskip (b := true) (t := 62) (hS.pick [1, 2, 3, 4, 5, 6, 7, 8, 9, 10, 11, 12, 13, 14] (by decide) rfl) rfl rfl rfl rfl rfl rfl ?_
   refine lxE_gskip (b := true) (t := 62) (hS.pick [1, 2, 3, 4, 5, 6, 7, 8, 9, 10, 11, 12, 13, 14] (by decide) rfl) rfl rfl rfl rfl rfl rfl ?_
   refine lxE_gskipL (b := true) (t := 62) (hS.pick [1, 2, 3, 4, 5, 6, 7, 8, 9, 10, 11, 12, 13, 14] (by decide) rfl) rfl rfl rfl rfl rfl rfl ?_
   refine lxE_gskip (b := true) (t := 62) (hS.pick [1, 2, 3, 4, 5, 6, 7, 8, 9, 10, 11, 12, 13, 14] (by decide) rfl) rfl rfl rfl rfl rfl rfl ?_
   refine lxE_v (hS.pick [1, 2, 3, 4, 5, 6, 7, 8, 9, 10, 11, 12, 13, 14] (by decide) rfl) rfl rfl (fun w hF => OpV_pickT rfl rfl) rfl ?_
   refine lxE_nil (hS.pick [1, 2, 3, 4, 5, 6, 7, 8, 9, 10, 11, 12, 13, 14] (by decide) rfl) ?_
   refine QE_then_n ?_
   exact wpC_le _ (by exact ⟨rfl, rfl, rfl, rfl, rfl, rfl, rfl, rfl, rfl, rfl, trivial⟩) (hK_63 true _ _ ⟨rfl, (hS.pick [14, 11, 12, 13, 10, 9, 6, 7, 8, 5, 4, 1, 2, 3] (by decide) rfl)⟩ h)
  case false =>
   have h := if_f h hb_42
   try simp only [hb_42]
   refine lxE_gv (t := 32) (hS.pick [1, 2, 3, 4, 5, 6, 7, 8, 9, 10, 11, 12, 13, 14] (by decide) rfl) rfl rfl rfl rfl (fun w hF => OpV_move rfl) rfl ?_
   refine lxE_gv (t := 32) (hS.pick [1, 2, 3, 4, 5, 6, 7, 8, 9, 10, 11, 12, 13, 14] (by decide) rfl) rfl rfl rfl rfl (fun w hF => OpV_move rfl) rfl ?_
   obtain ⟨x_43, hx_43, h⟩ := obind_some h
   refine lxE_gcall (t := 32) (hS.pick [1, 2, 3, 4, 5, 6, 7, 8, 9, 10, 11, 12, 13, 14] (by decide) rfl) rfl rfl rfl rfl (by kernel_rfl) rfl (c_ref11_Order _ a0    _ hx_43) rfl ?_
   rintro v_44 w hS1
   have hS := hS.call hS1
   simp only [List.cons_append, List.nil_append] at hS
   obtain ⟨x_46, hx_46, h⟩ := obind_some h
   refine lxE_gcall (t := 32) (hS.pick [2, 3, 4, 5, 6, 7, 8, 9, 10, 11, 12, 13, 14, 15] (by decide) rfl) rfl rfl rfl rfl (by kernel_rfl) rfl (c_law11_sameNat _ x_15 x_43 v_16 v_44  (hS.ro 10 rfl).rp (hS.ro 0 rfl).rp _ hx_46) rfl ?_
   rintro _ w ⟨rfl, hS1⟩
   have hS := hS.call hS1
   simp only [List.cons_append, List.nil_append] at hS
   refine lxE_gv (t := 32) (hS.pick [2, 3, 4, 5, 6, 7, 8, 9, 10, 11, 12, 13, 14, 15] (by decide) rfl) rfl rfl rfl rfl (fun w hF => OpV_un rfl (u_not x_46)) rfl ?_
   refine lxE_v (hS.pick [2, 3, 4, 5, 6, 7, 8, 9, 10, 11, 12, 13, 14, 15] (by decide) rfl) rfl rfl (fun w hF => OpV_pickF rfl rfl) rfl ?_
   refine lxE_v (hS.pick [2, 3, 4, 5, 6, 7, 8, 9, 10, 11, 12, 13, 14, 15] (by decide) rfl) rfl rfl (fun w hF => OpV_move rfl) rfl ?_
   cases hb_47 : (!x_46)
   case true =>
    have h := if_t h hb_47
    try simp only [hb_47]
    refine lxE_gskip (b := true) (t := 39) (hS.pick [2, 3, 4, 5, 6, 7, 8, 9, 10, 11, 12, 13, 14, 15] (by decide) rfl) rfl rfl rfl rfl rfl rfl ?_
    refine lxE_gskip (b := true) (t := 39) (hS.pick [2, 3, 4, 5, 6, 7, 8, 9, 10, 11, 12, 13, 14, 15] (by decide) rfl) rfl rfl rfl rfl rfl rfl ?_
    refine lxE_gskipL (b := true) (t := 39) (hS.pick [2, 3, 4, 5, 6, 7, 8, 9, 10, 11, 12, 13, 14, 15] (by decide) rfl) rfl rfl rfl rfl rfl rfl ?_
    refine lxE_gskipL (b := true) (t := 39) (hS.pick [2, 3, 4, 5, 6, 7, 8, 9, 10, 11, 12, 13, 14, 15] (by decide) rfl) rfl rfl rfl rfl rfl rfl ?_
    refine lxE_gskip (b := true) (t := 39) (hS.pick [2, 3, 4, 5, 6, 7, 8, 9, 10, 11, 12, 13, 14, 15] (by decide) rfl) rfl rfl rfl rfl rfl rfl ?_
    refine lxE_v (hS.pick [2, 3, 4, 5, 6, 7, 8, 9, 10, 11, 12, 13, 14, 15] (by decide) rfl) rfl rfl (fun w hF => OpV_pickT rfl rfl) rfl ?_
    refine lxE_v (hS.pick [2, 3, 4, 5, 6, 7, 8, 9, 10, 11, 12, 13, 14, 15] (by decide) rfl) rfl rfl (fun w hF => OpV_move rfl) rfl ?_
    refine lxE_gskip (b := true) (t := 46) (hS.pick [2, 3, 4, 5, 6, 7, 8, 9, 10, 11, 12, 13, 14, 15] (by decide) rfl) rfl rfl rfl rfl rfl rfl ?_
    refine lxE_gskipL (b := true) (t := 46) (hS.pick [2, 3, 4, 5, 6, 7, 8, 9, 10, 11, 12, 13, 14, 15] (by decide) rfl) rfl rfl rfl rfl rfl rfl ?_
    refine lxE_gskip (b := true) (t := 46) (hS.pick [2, 3, 4, 5, 6, 7, 8, 9, 10, 11, 12, 13, 14, 15] (by decide) rfl) rfl rfl rfl rfl rfl rfl ?_
    refine lxE_gskipL (b := true) (t := 46) (hS.pick [2, 3, 4, 5, 6, 7, 8, 9, 10, 11, 12, 13, 14, 15] (by decide) rfl) rfl rfl rfl rfl rfl rfl ?_
    refine lxE_gskip (b := true) (t := 46) (hS.pick [2, 3, 4, 5, 6, 7, 8, 9, 10, 11, 12, 13, 14, 15] (by decide) rfl) rfl rfl rfl rfl rfl rfl ?_
    refine lxE_v (hS.pick [2, 3, 4, 5, 6, 7, 8, 9, 10, 11, 12, 13, 14, 15] (by decide) rfl) rfl rfl (fun w hF => OpV_pickT rfl rfl) rfl ?_
    refine lxE_v (hS.pick [2, 3, 4, 5, 6, 7, 8, 9, 10, 11, 12, 13, 14, 15] (by decide) rfl) rfl rfl (fun w hF => OpV_move rfl) rfl ?_
    refine lxE_gskip (b := true) (t := 53) (hS.pick [2, 3, 4, 5, 6, 7, 8, 9, 10, 11, 12, 13, 14, 15] (by decide) rfl) rfl rfl rfl rfl rfl rfl ?_
    refine lxE_gskip (b := true) (t := 53) (hS.pick [2, 3, 4, 5, 6, 7, 8, 9, 10, 11, 12, 13, 14, 15] (by decide) rfl) rfl rfl rfl rfl rfl rfl ?_
    refine lxE_gskipL (b := true) (t := 53) (hS.pick [2, 3, 4, 5, 6, 7, 8, 9, 10, 11, 12, 13, 14, 15] (by decide) rfl) rfl rfl rfl rfl rfl rfl ?_
    refine lxE_gskip (b := true) (t := 53) (hS.pick [2, 3, 4, 5, 6, 7, 8, 9, 10, 11, 12, 13, 14, 15] (by decide) rfl) rfl rfl rfl rfl rfl rfl ?_
    refine lxE_gskip (b := true) (t := 53) (hS.pick [2, 3, 4, 5, 6, 7, 8, 9, 10, 11, 12, 13, 14, 15] (by decide) rfl) rfl rfl rfl rfl rfl rfl ?_
    refine lxE_gskipL (b := true) (t := 53) (hS.pick [2, 3, 4, 5, 6, 7, 8, 9, 10, 11, 12, 13, 14, 15] (by decide) rfl) rfl rfl rfl rfl rfl rfl ?_
    refine lxE_gskip (b := true) (t := 53) (hS.pick [2, 3, 4, 5, 6, 7, 8, 9, 10, 11, 12, 13, 14, 15] (by decide) rfl) rfl rfl rfl rfl rfl rfl ?_
    refine lxE_v (hS.pick [2, 3, 4, 5, 6, 7, 8, 9, 10, 11, 12, 13, 14, 15] (by decide) rfl) rfl rfl (fun w hF => OpV_pickT rfl rfl) rfl ?_
    refine lxE_v (hS.pick [2, 3, 4, 5, 6, 7, 8, 9, 10, 11, 12, 13, 14, 15] (by decide) rfl) rfl rfl (fun w hF => OpV_move rfl) rfl ?_
    refine lxE_gskip (b := true) (t := 62) (hS.pick [2, 3, 4, 5, 6, 7, 8, 9, 10, 11, 12, 13, 14, 15] (by decide) rfl) rfl rfl rfl rfl rfl rfl ?_
    refine lxE_gskip (b := true) (t := 62) (hS.pick [2, 3, 4, 5, 6, 7, 8, 9, 10, 11, 12, 13, 14, 15] (by decide) rfl) rfl rfl rfl rfl rfl rfl ?_
    refine lxE_gskipL (b := true) (t := 62) (hS.pick [2, 3, 4, 5, 6, 7, 8, 9, 10, 11, 12, 13, 14, 15] (by decide) rfl) rfl rfl rfl rfl rfl rfl ?_
    refine lxE_gskip (b := true) (t := 62) (hS.pick [2, 3, 4, 5, 6, 7, 8, 9, 10, 11, 12, 13, 14, 15] (by decide) rfl) rfl rfl rfl rfl rfl rfl ?_
    refine lxE_v (hS.pick [2, 3, 4, 5, 6, 7, 8, 9, 10, 11, 12, 13, 14, 15] (by decide) rfl) rfl rfl (fun w hF => OpV_pickT rfl rfl) rfl ?_
    refine lxE_nil (hS.pick [2, 3, 4, 5, 6, 7, 8, 9, 10, 11, 12, 13, 14, 15] (by decide) rfl) ?_
    refine QE_then_n ?_
    exact wpC_le _ (by exact ⟨rfl, rfl, rfl, rfl, rfl, rfl, rfl, rfl, rfl, rfl, trivial⟩) (hK_63 true _ _ ⟨rfl, (hS.pick [15, 12, 13, 14, 11, 10, 7, 8, 9, 6, 5, 2, 3, 4] (by decide) rfl)⟩ h)
   case false =>
    have h := if_f h hb_47
    try simp only [hb_47]
    refine lxE_gv (t := 39) (hS.pick [2, 3, 4, 5, 6, 7, 8, 9, 10, 11, 12, 13, 14, 15] (by decide) rfl) rfl rfl rfl rfl (fun w hF => OpV_ldBs (us := [v_19, v_21, vB x_18.2.2]) Try.underlying26 rfl sz26 rfl (hF.bxs 5 rfl rfl)) rfl ?_
    refine lxE_gv (t := 39) (hS.pick [2, 3, 4, 5, 6, 7, 8, 9, 10, 11, 12, 13, 14, 15] (by decide) rfl) rfl rfl rfl rfl (fun w hF => OpV_move rfl) rfl ?_
    obtain ⟨x_48, hx_48, h⟩ := obind_some h
    refine lxE_gcall (t := 39) (hS.pick [2, 3, 4, 5, 6, 7, 8, 9, 10, 11, 12, 13, 14, 15] (by decide) rfl) rfl rfl rfl rfl (by kernel_rfl) rfl (c_ref11_Base _ a0    _ hx_48) rfl ?_
    rintro _ w ⟨v_49, v_51, rfl, hS1⟩
    have hS := hS.call hS1
    simp only [List.cons_append, List.nil_append] at hS
    obtain ⟨x_53, hx_53, h⟩ := obind_some h
    refine lxE_gcall (t := 39) (hS.pick [4, 5, 6, 7, 8, 9, 10, 11, 12, 13, 14, 15, 16, 17] (by decide) rfl) rfl rfl rfl rfl (by kernel_rfl) rfl (c_law11_same _ x_18.1 x_18.2.1 x_18.2.2 x_48.1 x_48.2.1 x_48.2.2 v_19 v_21 v_49 v_51  (hS.ro 10 rfl).rp (hS.ro 11 rfl).rp (hS.ro 0 rfl).rp (hS.ro 1 rfl).rp _ hx_53) rfl ?_
    rintro _ w ⟨rfl, hS1⟩
    have hS := hS.call hS1
    simp only [List.cons_append, List.nil_append] at hS
    refine lxE_gv (t := 39) (hS.pick [4, 5, 6, 7, 8, 9, 10, 11, 12, 13, 14, 15, 16, 17] (by decide) rfl) rfl rfl rfl rfl (fun w hF => OpV_un rfl (u_not x_53)) rfl ?_
    refine lxE_v (hS.pick [4, 5, 6, 7, 8, 9, 10, 11, 12, 13, 14, 15, 16, 17] (by decide) rfl) rfl rfl (fun w hF => OpV_pickF rfl rfl) rfl ?_
    refine lxE_v (hS.pick [4, 5, 6, 7, 8, 9, 10, 11, 12, 13, 14, 15, 16, 17] (by decide) rfl) rfl rfl (fun w hF => OpV_move rfl) rfl ?_
    cases hb_54 : (!x_53)
    case true =>
     have h := if_t h hb_54
     try simp only [hb_54]
     refine lxE_gskip (b := true) (t := 46) (hS.pick [4, 5, 6, 7, 8, 9, 10, 11, 12, 13, 14, 15, 16, 17] (by decide) rfl) rfl rfl rfl rfl rfl rfl ?_
     refine lxE_gskipL (b := true) (t := 46) (hS.pick [4, 5, 6, 7, 8, 9, 10, 11, 12, 13, 14, 15, 16, 17] (by decide) rfl) rfl rfl rfl rfl rfl rfl ?_
     refine lxE_gskip (b := true) (t := 46) (hS.pick [4, 5, 6, 7, 8, 9, 10, 11, 12, 13, 14, 15, 16, 17] (by decide) rfl) rfl rfl rfl rfl rfl rfl ?_
     refine lxE_gskipL (b := true) (t := 46) (hS.pick [4, 5, 6, 7, 8, 9, 10, 11, 12, 13, 14, 15, 16, 17] (by decide) rfl) rfl rfl rfl rfl rfl rfl ?_
     refine lxE_gskip (b := true) (t := 46) (hS.pick [4, 5, 6, 7, 8, 9, 10, 11, 12, 13, 14, 15, 16, 17] (by decide) rfl) rfl rfl rfl rfl rfl rfl ?_
     refine lxE_v (hS.pick [4, 5, 6, 7, 8, 9, 10, 11, 12, 13, 14, 15, 16, 17] (by decide) rfl) rfl rfl (fun w hF => OpV_pickT rfl rfl) rfl ?_
     refine lxE_v (hS.pick [4, 5, 6, 7, 8, 9, 10, 11, 12, 13, 14, 15, 16, 17] (by decide) rfl) rfl rfl (fun w hF => OpV_move rfl) rfl ?_
     refine lxE_gskip (b := true) (t := 53) (hS.pick [4, 5, 6, 7, 8, 9, 10, 11, 12, 13, 14, 15, 16, 17] (by decide) rfl) rfl rfl rfl rfl rfl rfl ?_
     refine lxE_gskip (b := true) (t := 53) (hS.pick [4, 5, 6, 7, 8, 9, 10, 11, 12, 13, 14, 15, 16, 17] (by decide) rfl) rfl rfl rfl rfl rfl rfl ?_
     refine lxE_gskipL (b := true) (t := 53) (hS.pick [4, 5, 6, 7, 8, 9, 10, 11, 12, 13, 14, 15, 16, 17] (by decide) rfl) rfl rfl rfl rfl rfl rfl ?_
     refine lxE_gskip (b := true) (t := 53) (hS.pick [4, 5, 6, 7, 8, 9, 10, 11, 12, 13, 14, 15, 16, 17] (by decide) rfl) rfl rfl rfl rfl rfl rfl ?_
     refine lxE_gskip (b := true) (t := 53) (hS.pick [4, 5, 6, 7, 8, 9, 10, 11, 12, 13, 14, 15, 16, 17] (by decide) rfl) rfl rfl rfl rfl rfl rfl ?_
     refine lxE_gskipL (b := true) (t := 53) (hS.pick [4, 5, 6, 7, 8, 9, 10, 11, 12, 13, 14, 15, 16, 17] (by decide) rfl) rfl rfl rfl rfl rfl rfl ?_
     refine lxE_gskip (b := true) (t := 53) (hS.pick [4, 5, 6, 7, 8, 9, 10, 11, 12, 13, 14, 15, 16, 17] (by decide) rfl) rfl rfl rfl rfl rfl rfl ?_
     refine lxE_v (hS.pick [4, 5, 6, 7, 8, 9, 10, 11, 12, 13, 14, 15, 16, 17] (by decide) rfl) rfl rfl (fun w hF => OpV_pickT rfl rfl) rfl ?_
     refine lxE_v (hS.pick [4, 5, 6, 7, 8, 9, 10, 11, 12, 13, 14, 15, 16, 17] (by decide) rfl) rfl rfl (fun w hF => OpV_move rfl) rfl ?_
     refine lxE_gskip (b := true) (t := 62) (hS.pick [4, 5, 6, 7, 8, 9, 10, 11, 12, 13, 14, 15, 16, 17] (by decide) rfl) rfl rfl rfl rfl rfl rfl ?_
     refine lxE_gskip (b := true) (t := 62) (hS.pick [4, 5, 6, 7, 8, 9, 10, 11, 12, 13, 14, 15, 16, 17] (by decide) rfl) rfl rfl rfl rfl rfl rfl ?_
     refine lxE_gskipL (b := true) (t := 62) (hS.pick [4, 5, 6, 7, 8, 9, 10, 11, 12, 13, 14, 15, 16, 17] (by decide) rfl) rfl rfl rfl rfl rfl rfl ?_
     refine lxE_gskip (b := true) (t := 62) (hS.pick [4, 5, 6, 7, 8, 9, 10, 11, 12, 13, 14, 15, 16, 17] (by decide) rfl) rfl rfl rfl rfl rfl rfl ?_
     refine lxE_v (hS.pick [4, 5, 6, 7, 8, 9, 10, 11, 12, 13, 14, 15, 16, 17] (by decide) rfl) rfl rfl (fun w hF => OpV_pickT rfl rfl) rfl ?_
     refine lxE_nil (hS.pick [4, 5, 6, 7, 8, 9, 10, 11, 12, 13, 14, 15, 16, 17] (by decide) rfl) ?_
     refine QE_then_n ?_
     exact wpC_le _ (by exact ⟨rfl, rfl, rfl, rfl, rfl, rfl, rfl, rfl, rfl, rfl, trivial⟩) (hK_63 true _ _ ⟨rfl, (hS.pick [17, 14, 15, 16, 13, 12, 9, 10, 11, 8, 7, 4, 5, 6] (by decide) rfl)⟩ h)
    case false =>
     have h := if_f h hb_54
     try simp only [hb_54]
     refine lxE_gv (t := 46) (hS.pick [4, 5, 6, 7, 8, 9, 10, 11, 12, 13, 14, 15, 16, 17] (by decide) rfl) rfl rfl rfl rfl (fun w hF => OpV_move rfl) rfl ?_
     obtain ⟨x_55, hx_55, h⟩ := obind_some h
     refine lxE_gcall (t := 46) (hS.pick [4, 5, 6, 7, 8, 9, 10, 11, 12, 13, 14, 15, 16, 17] (by decide) rfl) rfl rfl rfl rfl (by kernel_rfl) rfl (c_curve_Size _ a0    _ hx_55) rfl ?_
     rintro _ w ⟨rfl, hS1⟩
     have hS := hS.call hS1
     simp only [List.cons_append, List.nil_append] at hS
     refine lxE_gv (t := 46) (hS.pick [4, 5, 6, 7, 8, 9, 10, 11, 12, 13, 14, 15, 16, 17] (by decide) rfl) rfl rfl rfl rfl (fun w hF => OpV_move rfl) rfl ?_
     obtain ⟨x_56, hx_56, h⟩ := obind_some h
     refine lxE_gcall (t := 46) (hS.pick [4, 5, 6, 7, 8, 9, 10, 11, 12, 13, 14, 15, 16, 17] (by decide) rfl) rfl rfl rfl rfl (by kernel_rfl) rfl (c_ref11_Size _ a0    _ hx_56) rfl ?_
     rintro _ w ⟨rfl, hS1⟩
     have hS := hS.call hS1
     simp only [List.cons_append, List.nil_append] at hS
     refine lxE_gv (t := 46) (hS.pick [4, 5, 6, 7, 8, 9, 10, 11, 12, 13, 14, 15, 16, 17] (by decide) rfl) rfl rfl rfl rfl (fun w hF => OpV_bin rfl rfl (b_ineq _ x_55 x_56)) rfl ?_
     refine lxE_v (hS.pick [4, 5, 6, 7, 8, 9, 10, 11, 12, 13, 14, 15, 16, 17] (by decide) rfl) rfl rfl (fun w hF => OpV_pickF rfl rfl) rfl ?_
     refine lxE_v (hS.pick [4, 5, 6, 7, 8, 9, 10, 11, 12, 13, 14, 15, 16, 17] (by decide) rfl) rfl rfl (fun w hF => OpV_move rfl) rfl ?_
     cases hb_57 : (x_55 != x_56)
     case true =>
      have h := if_t h hb_57
      try simp only [hb_57]
      refine lxE_gskip (b := true) (t := 53) (hS.pick [4, 5, 6, 7, 8, 9, 10, 11, 12, 13, 14, 15, 16, 17] (by decide) rfl) rfl rfl rfl rfl rfl rfl ?_
      refine lxE_gskip (b := true) (t := 53) (hS.pick [4, 5, 6, 7, 8, 9, 10, 11, 12, 13, 14, 15, 16, 17] (by decide) rfl) rfl rfl rfl rfl rfl rfl ?_
      refine lxE_gskipL (b := true) (t := 53) (hS.pick [4, 5, 6, 7, 8, 9, 10, 11, 12, 13, 14, 15, 16, 17] (by decide) rfl) rfl rfl rfl rfl rfl rfl ?_
      refine lxE_gskip (b := true) (t := 53) (hS.pick [4, 5, 6, 7, 8, 9, 10, 11, 12, 13, 14, 15, 16, 17] (by decide) rfl) rfl rfl rfl rfl rfl rfl ?_
      refine lxE_gskip (b := true) (t := 53) (hS.pick [4, 5, 6, 7, 8, 9, 10, 11, 12, 13, 14, 15, 16, 17] (by decide) rfl) rfl rfl rfl rfl rfl rfl ?_
      refine lxE_gskipL (b := true) (t := 53) (hS.pick [4, 5, 6, 7, 8, 9, 10, 11, 12, 13, 14, 15, 16, 17] (by decide) rfl) rfl rfl rfl rfl rfl rfl ?_
      refine lxE_gskip (b := true) (t := 53) (hS.pick [4, 5, 6, 7, 8, 9, 10, 11, 12, 13, 14, 15, 16, 17] (by decide) rfl) rfl rfl rfl rfl rfl rfl ?_
      refine lxE_v (hS.pick [4, 5, 6, 7, 8, 9, 10, 11, 12, 13, 14, 15, 16, 17] (by decide) rfl) rfl rfl (fun w hF => OpV_pickT rfl rfl) rfl ?_
      refine lxE_v (hS.pick [4, 5, 6, 7, 8, 9, 10, 11, 12, 13, 14, 15, 16, 17] (by decide) rfl) rfl rfl (fun w hF => OpV_move rfl) rfl ?_
      refine lxE_gskip (b := true) (t := 62) (hS.pick [4, 5, 6, 7, 8, 9, 10, 11, 12, 13, 14, 15, 16, 17] (by decide) rfl) rfl rfl rfl rfl rfl rfl ?_
      refine lxE_gskip (b := true) (t := 62) (hS.pick [4, 5, 6, 7, 8, 9, 10, 11, 12, 13, 14, 15, 16, 17] (by decide) rfl) rfl rfl rfl rfl rfl rfl ?_
      refine lxE_gskipL (b := true) (t := 62) (hS.pick [4, 5, 6, 7, 8, 9, 10, 11, 12, 13, 14, 15, 16, 17] (by decide) rfl) rfl rfl rfl rfl rfl rfl ?_
      refine lxE_gskip (b := true) (t := 62) (hS.pick [4, 5, 6, 7, 8, 9, 10, 11, 12, 13, 14, 15, 16, 17] (by decide) rfl) rfl rfl rfl rfl rfl rfl ?_
      refine lxE_v (hS.pick [4, 5, 6, 7, 8, 9, 10, 11, 12, 13, 14, 15, 16, 17] (by decide) rfl) rfl rfl (fun w hF => OpV_pickT rfl rfl) rfl ?_
      refine lxE_nil (hS.pick [4, 5, 6, 7, 8, 9, 10, 11, 12, 13, 14, 15, 16, 17] (by decide) rfl) ?_
      refine QE_then_n ?_
      exact wpC_le _ (by exact ⟨rfl, rfl, rfl, rfl, rfl, rfl, rfl, rfl, rfl, rfl, trivial⟩) (hK_63 true _ _ ⟨rfl, (hS.pick [17, 14, 15, 16, 13, 12, 9, 10, 11, 8, 7, 4, 5, 6] (by decide) rfl)⟩ h)
     case false =>
      have h := if_f h hb_57
      try simp only [hb_57]
      refine lxE_gv (t := 53) (hS.pick [4, 5, 6, 7, 8, 9, 10, 11, 12, 13, 14, 15, 16, 17] (by decide) rfl) rfl rfl rfl rfl (fun w hF => OpV_move rfl) rfl ?_
      refine lxE_gv (t := 53) (hS.pick [4, 5, 6, 7, 8, 9, 10, 11, 12, 13, 14, 15, 16, 17] (by decide) rfl) rfl rfl rfl rfl (fun w hF => OpV_ldBs (us := [slV v_4 e32.sz 0 x_3.1.2, slV v_7 e32.sz 0 x_3.2.1.2, vB x_3.2.2]) Try.underlying26 rfl sz26 rfl (hF.bxs 10 rfl rfl)) rfl ?_
      obtain ⟨x_58, hx_58, h⟩ := obind_some h
      refine lxE_gcall (t := 53) (hS.pick [4, 5, 6, 7, 8, 9, 10, 11, 12, 13, 14, 15, 16, 17] (by decide) rfl) rfl rfl rfl rfl (by kernel_rfl) rfl (c_curve_On _ a0 (x_3.1.1.take x_3.1.2) (x_3.2.1.1.take x_3.2.1.2) x_3.2.2 (slV v_4 e32.sz 0 x_3.1.2) (slV v_7 e32.sz 0 x_3.2.1.2)  ((hS.ro 15 rfl).tk hk_6).rp ((hS.ro 16 rfl).tk hk_9).rp _ hx_58) rfl ?_
      rintro _ w ⟨rfl, hS1⟩
      have hS := hS.call hS1
      simp only [List.cons_append, List.nil_append] at hS
      refine lxE_gv (t := 53) (hS.pick [4, 5, 6, 7, 8, 9, 10, 11, 12, 13, 14, 15, 16, 17] (by decide) rfl) rfl rfl rfl rfl (fun w hF => OpV_move rfl) rfl ?_
      refine lxE_gv (t := 53) (hS.pick [4, 5, 6, 7, 8, 9, 10, 11, 12, 13, 14, 15, 16, 17] (by decide) rfl) rfl rfl rfl rfl (fun w hF => OpV_ldBs (us := [va1_0, va1_1, vB a1_2]) Try.underlying26 rfl sz26 rfl (hF.bxs 13 rfl rfl)) rfl ?_
      obtain ⟨x_59, hx_59, h⟩ := obind_some h
      refine lxE_gcall (t := 53) (hS.pick [4, 5, 6, 7, 8, 9, 10, 11, 12, 13, 14, 15, 16, 17] (by decide) rfl) rfl rfl rfl rfl (by kernel_rfl) rfl (c_ref11_On _ a0 a1_0 a1_1 a1_2 va1_0 va1_1  (ha1_0.now hS.fr).rp (ha1_1.now hS.fr).rp _ hx_59) rfl ?_
      rintro _ w ⟨rfl, hS1⟩
      have hS := hS.call hS1
      simp only [List.cons_append, List.nil_append] at hS
      refine lxE_gv (t := 53) (hS.pick [4, 5, 6, 7, 8, 9, 10, 11, 12, 13, 14, 15, 16, 17] (by decide) rfl) rfl rfl rfl rfl (fun w hF => OpV_bin rfl rfl (b_bneq _ x_58 x_59 Try.underlying4 rfl)) rfl ?_
      refine lxE_v (hS.pick [4, 5, 6, 7, 8, 9, 10, 11, 12, 13, 14, 15, 16, 17] (by decide) rfl) rfl rfl (fun w hF => OpV_pickF rfl rfl) rfl ?_
      refine lxE_v (hS.pick [4, 5, 6, 7, 8, 9, 10, 11, 12, 13, 14, 15, 16, 17] (by decide) rfl) rfl rfl (fun w hF => OpV_move rfl) rfl ?_
      cases hb_60 : (x_58 != x_59)
      case true =>
       have h := if_t h hb_60
       try simp only [hb_60]
       refine lxE_gskip (b := true) (t := 62) (hS.pick [4, 5, 6, 7, 8, 9, 10, 11, 12, 13, 14, 15, 16, 17] (by decide) rfl) rfl rfl rfl rfl rfl rfl ?_
       refine lxE_gskip (b := true) (t := 62) (hS.pick [4, 5, 6, 7, 8, 9, 10, 11, 12, 13, 14, 15, 16, 17] (by decide) rfl) rfl rfl rfl rfl rfl rfl ?_
       refine lxE_gskipL (b := true) (t := 62) (hS.pick [4, 5, 6, 7, 8, 9, 10, 11, 12, 13, 14, 15, 16, 17] (by decide) rfl) rfl rfl rfl rfl rfl rfl ?_
       refine lxE_gskip (b := true) (t := 62) (hS.pick [4, 5, 6, 7, 8, 9, 10, 11, 12, 13, 14, 15, 16, 17] (by decide) rfl) rfl rfl rfl rfl rfl rfl ?_
       refine lxE_v (hS.pick [4, 5, 6, 7, 8, 9, 10, 11, 12, 13, 14, 15, 16, 17] (by decide) rfl) rfl rfl (fun w hF => OpV_pickT rfl rfl) rfl ?_
       refine lxE_nil (hS.pick [4, 5, 6, 7, 8, 9, 10, 11, 12, 13, 14, 15, 16, 17] (by decide) rfl) ?_
       refine QE_then_n ?_
       exact wpC_le _ (by exact ⟨rfl, rfl, rfl, rfl, rfl, rfl, rfl, rfl, rfl, rfl, trivial⟩) (hK_63 true _ _ ⟨rfl, (hS.pick [17, 14, 15, 16, 13, 12, 9, 10, 11, 8, 7, 4, 5, 6] (by decide) rfl)⟩ h)
      case false =>
       have h := if_f h hb_60
       try simp only [hb_60]
       refine lxE_gv (t := 62) (hS.pick [4, 5, 6, 7, 8, 9, 10, 11, 12, 13, 14, 15, 16, 17] (by decide) rfl) rfl rfl rfl rfl (fun w hF => OpV_ldBs (us := [slV v_4 e32.sz 0 x_3.1.2, slV v_7 e32.sz 0 x_3.2.1.2, vB x_3.2.2]) Try.underlying26 rfl sz26 rfl (hF.bxs 10 rfl rfl)) rfl ?_
       refine lxE_gv (t := 62) (hS.pick [4, 5, 6, 7, 8, 9, 10, 11, 12, 13, 14, 15, 16, 17] (by decide) rfl) rfl rfl rfl rfl (fun w hF => OpV_ldBs (us := [va1_0, va1_1, vB a1_2]) Try.underlying26 rfl sz26 rfl (hF.bxs 13 rfl rfl)) rfl ?_
       obtain ⟨x_61, hx_61, h⟩ := obind_some h
       refine lxE_gcall (t := 62) (hS.pick [4, 5, 6, 7, 8, 9, 10, 11, 12, 13, 14, 15, 16, 17] (by decide) rfl) rfl rfl rfl rfl (by kernel_rfl) rfl (c_law11_still _ x_3.1.1 x_3.1.2 x_3.2.1.1 x_3.2.1.2 x_3.2.2 a1_0 a1_1 a1_2 v_4 v_7 va1_0 va1_1  (hS.ro 15 rfl).rp hk_6 (hS.ro 16 rfl).rp hk_9 (ha1_0.now hS.fr).rp (ha1_1.now hS.fr).rp _ hx_61) rfl ?_
       rintro _ w ⟨rfl, hS1⟩
       have hS := hS.call hS1
       simp only [List.cons_append, List.nil_append] at hS
       refine lxE_gv (t := 62) (hS.pick [4, 5, 6, 7, 8, 9, 10, 11, 12, 13, 14, 15, 16, 17] (by decide) rfl) rfl rfl rfl rfl (fun w hF => OpV_un rfl (u_not x_61)) rfl ?_
       refine lxE_v (hS.pick [4, 5, 6, 7, 8, 9, 10, 11, 12, 13, 14, 15, 16, 17] (by decide) rfl) rfl rfl (fun w hF => OpV_pickF rfl rfl) rfl ?_
       refine lxE_nil (hS.pick [4, 5, 6, 7, 8, 9, 10, 11, 12, 13, 14, 15, 16, 17] (by decide) rfl) ?_
       refine QE_then_n ?_
       exact wpC_le _ (by exact ⟨rfl, rfl, rfl, rfl, rfl, rfl, rfl, rfl, rfl, rfl, trivial⟩) (hK_63 (!x_61) _ _ ⟨rfl, (hS.pick [17, 14, 15, 16, 13, 12, 9, 10, 11, 8, 7, 4, 5, 6] (by decide) rfl)⟩ h)
 rintro x_62 L w hJ h
 try dsimp only at hJ
 obtain ⟨rfl, hS⟩ := hJ
 unfold F.law11_CurveKnows_K1 at h
 refine wpC_cond rfl (fun hb_119 => ?_) (fun hb_119 => ?_)
 ·have h := if_t h hb_119
  refine wpC_seq (wpC_region (wpR_run 1 rfl ?_))
  refine wpR_nil (QE_then_n (wpC_ret (QE_then_r ?_)))
  cases h
  exact QE_ret1 rfl rfl ⟨rfl, hS.pick [] (by decide) rfl⟩
 have h := if_f h hb_119
 refine wpC_skip (QE_then_n ?_)
 refine seq_join (r := r) (fun (g : Bool) L w => L = [(0, vI a0), (3, pB b_1 0), (5, pB b_10 0), (9, v_26), (10, v_29), (11, pB b_36 0), (12, vB g)] ∧ St [] w0 w [OE.bx b_1 [va1_0, va1_1, vB a1_2], OE.bx b_10 [slV v_4 e32.sz 0 x_3.1.2, slV v_7 e32.sz 0 x_3.2.1.2, vB x_3.2.2], own e32 v_4 x_3.1.1, own e32 v_7 x_3.2.1.1, own e32 v_26 x_25, own e32 v_29 x_28, OE.bx b_36 [v_32, v_34, vB x_31.2.2], own e32 v_32 x_31.1, own e32 v_34 x_31.2.1]) (F.law11_CurveKnows_K2 a0 x_25 x_28 x_31 a1_0 a1_1 a1_2 x_3) ?_ ?_
 rotate_left
 ·intro hK_68
  refine wpC_region (wpR_run 2 rfl ?_)
  refine wpR_v (OpV_build (vs := [(0, v_13, [v_13]), (1, v_16, [v_16])]) (cells := [v_13, v_16, vB false]) rfl lay26 ⟨(cells_one (hS.ro 4 rfl).one), (cells_one (hS.ro 5 rfl).one), trivial⟩ rfl) rfl ?_
  have hG := hS.pick (os' := [own e32 v_13 x_12, own e32 v_16 x_15] ++ [OE.bx b_1 [va1_0, va1_1, vB a1_2], OE.bx b_10 [slV v_4 e32.sz 0 x_3.1.2, slV v_7 e32.sz 0 x_3.2.1.2, vB x_3.2.2], own e32 v_4 x_3.1.1, own e32 v_7 x_3.2.1.1, OE.bx b_23 [v_19, v_21, vB x_18.2.2], own e32 v_19 x_18.1, own e32 v_21 x_18.2.1, own e32 v_26 x_25, own e32 v_29 x_28, OE.bx b_36 [v_32, v_34, vB x_31.2.2], own e32 v_32 x_31.1, own e32 v_34 x_31.2.1]) [4, 5, 0, 1, 2, 3, 6, 7, 8, 9, 10, 11, 12, 13] (by decide) rfl
  obtain ⟨x_64, hx_64, h⟩ := obind_some h
  refine wpR_call (by kernel_rfl) rfl (c_law11_spoil _ x_12 x_15 false v_13 v_16  _ hG.give  _ hx_64) rfl ?_
  rintro _ w ⟨rfl, hS1⟩
  have hS := hG.back hS1
  simp only [List.cons_append, List.nil_append] at hS
  refine wpR_run 1 rfl ?_
  cases hb_65 : x_64
  case true =>
   have h := if_t h hb_65
   try simp only [hb_65]
   refine wpR_gv (t := 72) rfl rfl (OpV_ldBs (us := [v_19, v_21, vB x_18.2.2]) Try.underlying26 rfl sz26 rfl (hS.bxs 4 rfl rfl)) rfl ?_
   have hG := hS.pick (os' := [own e32 v_19 x_18.1, own e32 v_21 x_18.2.1] ++ [OE.bx b_1 [va1_0, va1_1, vB a1_2], OE.bx b_10 [slV v_4 e32.sz 0 x_3.1.2, slV v_7 e32.sz 0 x_3.2.1.2, vB x_3.2.2], own e32 v_4 x_3.1.1, own e32 v_7 x_3.2.1.1, OE.bx b_23 [v_19, v_21, vB x_18.2.2], own e32 v_26 x_25, own e32 v_29 x_28, OE.bx b_36 [v_32, v_34, vB x_31.2.2], own e32 v_32 x_31.1, own e32 v_34 x_31.2.1]) [5, 6, 0, 1, 2, 3, 4, 7, 8, 9, 10, 11] (by decide) rfl
   obtain ⟨x_66, hx_66, h⟩ := obind_some h
   refine wpR_gcall (t := 72) rfl rfl (by kernel_rfl) rfl (c_law11_spoil _ x_18.1 x_18.2.1 x_18.2.2 v_19 v_21  _ hG.give  _ hx_66) rfl ?_
   rintro _ w ⟨rfl, hS1⟩
   have hS := hG.back hS1
   simp only [List.cons_append, List.nil_append] at hS
   refine wpR_run 2 rfl ?_
   refine wpR_nil (QE_then_n ?_)
   exact wpC_le _ (by exact ⟨rfl, rfl, rfl, rfl, rfl, rfl, rfl, trivial⟩) (hK_68 x_66 _ _ ⟨rfl, (hS.pick [0, 1, 2, 3, 5, 6, 7, 8, 9] (by decide) rfl)⟩ h)
  case false =>
   have h := if_f h hb_65
   try simp only [hb_65]
   refine wpR_run 4 rfl ?_
   refine wpR_nil (QE_then_n ?_)
   exact wpC_le _ (by exact ⟨rfl, rfl, rfl, rfl, rfl, rfl, rfl, trivial⟩) (hK_68 false _ _ ⟨rfl, (hS.pick [0, 1, 2, 3, 7, 8, 9, 10, 11] (by decide) rfl)⟩ h)
 rintro x_67 L w hJ h
 try dsimp only at hJ
 obtain ⟨rfl, hS⟩ := hJ
 unfold F.law11_CurveKnows_K2 at h
 refine seq_join (r := r) (fun (g : Bool) L w => L = [(0, vI a0), (3, pB b_1 0), (5, pB b_10 0), (12, vB g)] ∧ St [] w0 w [OE.bx b_1 [va1_0, va1_1, vB a1_2], OE.bx b_10 [slV v_4 e32.sz 0 x_3.1.2, slV v_7 e32.sz 0 x_3.2.1.2, vB x_3.2.2], own e32 v_4 x_3.1.1, own e32 v_7 x_3.2.1.1]) (F.law11_CurveKnows_K3 a0 a1_0 a1_1 a1_2 x_3) ?_ ?_
 rotate_left
 ·intro hK_87
  refine wpC_regionT (fun w' => St [] w0 w' [OE.bx b_1 [va1_0, va1_1, vB a1_2], OE.bx b_10 [slV v_4 e32.sz 0 x_3.1.2, slV v_7 e32.sz 0 x_3.2.1.2, vB x_3.2.2], own e32 v_4 x_3.1.1, own e32 v_7 x_3.2.1.1, own e32 v_26 x_25, own e32 v_29 x_28, OE.bx b_36 [v_32, v_34, vB x_31.2.2], own e32 v_32 x_31.1, own e32 v_34 x_31.2.1]) (fun i => !([4, 5, 10, 11, 16, 17].contains i)) hmix (fun _ _ _ hf => hf.2) (fun _ _ hf => hf) (by kernel_rfl) ?_
  have hS := hS.drew
  show lxE _ _ _ _ _ _ _ [0, 1, 2, 3, 4, 5, 6, 7, 8, 9, 10, 11, 12, 13, 14, 15, 16, 17, 18, 19] _ _
  refine lxE_v hS rfl rfl (fun w hF => OpV_move rfl) rfl ?_
  refine lxE_v hS rfl rfl (fun w hF => OpV_move rfl) rfl ?_
  cases hb_69 : x_67
  case true =>
   have h := if_t h hb_69
   try simp only [hb_69]
   refine lxE_gv (t := 77) hS rfl rfl rfl rfl (fun w hF => OpV_move rfl) rfl ?_
   refine lxE_gv (t := 77) hS rfl rfl rfl rfl (fun w hF => OpV_move rfl) rfl ?_
   obtain ⟨x_70, hx_70, h⟩ := obind_some h
   refine lxE_gcall (t := 77) hS rfl rfl rfl rfl (by kernel_rfl) rfl (c_ref11_Field _ a0    _ hx_70) rfl ?_
   rintro v_71 w hS1
   have hS := hS.call hS1
   simp only [List.cons_append, List.nil_append] at hS
   obtain ⟨x_73, hx_73, h⟩ := obind_some h
   refine lxE_gcall (t := 77) (hS.pick [1, 2, 3, 4, 5, 6, 7, 8, 9] (by decide) rfl) rfl rfl rfl rfl (by kernel_rfl) rfl (c_law11_sameNat _ x_25 x_70 v_26 v_71  (hS.ro 5 rfl).rp (hS.ro 0 rfl).rp _ hx_73) rfl ?_
   rintro _ w ⟨rfl, hS1⟩
   have hS := hS.call hS1
   simp only [List.cons_append, List.nil_append] at hS
   refine lxE_v (hS.pick [1, 2, 3, 4, 5, 6, 7, 8, 9] (by decide) rfl) rfl rfl (fun w hF => OpV_pickT rfl rfl) rfl ?_
   refine lxE_v (hS.pick [1, 2, 3, 4, 5, 6, 7, 8, 9] (by decide) rfl) rfl rfl (fun w hF => OpV_move rfl) rfl ?_
   cases hb_74 : x_73
   case true =>
    have h := if_t h hb_74
    try simp only [hb_74]
    refine lxE_gv (t := 83) (hS.pick [1, 2, 3, 4, 5, 6, 7, 8, 9] (by decide) rfl) rfl rfl rfl rfl (fun w hF => OpV_move rfl) rfl ?_
    refine lxE_gv (t := 83) (hS.pick [1, 2, 3, 4, 5, 6, 7, 8, 9] (by decide) rfl) rfl rfl rfl rfl (fun w hF => OpV_move rfl) rfl ?_
    obtain ⟨x_75, hx_75, h⟩ := obind_some h
    refine lxE_gcall (t := 83) (hS.pick [1, 2, 3, 4, 5, 6, 7, 8, 9] (by decide) rfl) rfl rfl rfl rfl (by kernel_rfl) rfl (c_ref11_Order _ a0    _ hx_75) rfl ?_
    rintro v_76 w hS1
    have hS := hS.call hS1
    simp only [List.cons_append, List.nil_append] at hS
    obtain ⟨x_78, hx_78, h⟩ := obind_some h
    refine lxE_gcall (t := 83) (hS.pick [2, 3, 4, 5, 6, 7, 8, 9, 10] (by decide) rfl) rfl rfl rfl rfl (by kernel_rfl) rfl (c_law11_sameNat _ x_28 x_75 v_29 v_76  (hS.ro 7 rfl).rp (hS.ro 0 rfl).rp _ hx_78) rfl ?_
    rintro _ w ⟨rfl, hS1⟩
    have hS := hS.call hS1
    simp only [List.cons_append, List.nil_append] at hS
    refine lxE_v (hS.pick [2, 3, 4, 5, 6, 7, 8, 9, 10] (by decide) rfl) rfl rfl (fun w hF => OpV_pickT rfl rfl) rfl ?_
    refine lxE_v (hS.pick [2, 3, 4, 5, 6, 7, 8, 9, 10] (by decide) rfl) rfl rfl (fun w hF => OpV_move rfl) rfl ?_
    cases hb_79 : x_78
    case true =>
     have h := if_t h hb_79
     try simp only [hb_79]
     refine lxE_gv (t := 89) (hS.pick [2, 3, 4, 5, 6, 7, 8, 9, 10] (by decide) rfl) rfl rfl rfl rfl (fun w hF => OpV_ldBs (us := [v_32, v_34, vB x_31.2.2]) Try.underlying26 rfl sz26 rfl (hF.bxs 6 rfl rfl)) rfl ?_
     refine lxE_gv (t := 89) (hS.pick [2, 3, 4, 5, 6, 7, 8, 9, 10] (by decide) rfl) rfl rfl rfl rfl (fun w hF => OpV_move rfl) rfl ?_
     obtain ⟨x_80, hx_80, h⟩ := obind_some h
     refine lxE_gcall (t := 89) (hS.pick [2, 3, 4, 5, 6, 7, 8, 9, 10] (by decide) rfl) rfl rfl rfl rfl (by kernel_rfl) rfl (c_ref11_Base _ a0    _ hx_80) rfl ?_
     rintro _ w ⟨v_81, v_83, rfl, hS1⟩
     have hS := hS.call hS1
     simp only [List.cons_append, List.nil_append] at hS
     obtain ⟨x_85, hx_85, h⟩ := obind_some h
     refine lxE_gcall (t := 89) (hS.pick [4, 5, 6, 7, 8, 9, 10, 11, 12] (by decide) rfl) rfl rfl rfl rfl (by kernel_rfl) rfl (c_law11_same _ x_31.1 x_31.2.1 x_31.2.2 x_80.1 x_80.2.1 x_80.2.2 v_32 v_34 v_81 v_83  (hS.ro 11 rfl).rp (hS.ro 12 rfl).rp (hS.ro 0 rfl).rp (hS.ro 1 rfl).rp _ hx_85) rfl ?_
     rintro _ w ⟨rfl, hS1⟩
     have hS := hS.call hS1
     simp only [List.cons_append, List.nil_append] at hS
     refine lxE_v (hS.pick [4, 5, 6, 7, 8, 9, 10, 11, 12] (by decide) rfl) rfl rfl (fun w hF => OpV_pickT rfl rfl) rfl ?_
     refine lxE_v (hS.pick [4, 5, 6, 7, 8, 9, 10, 11, 12] (by decide) rfl) rfl rfl (fun w hF => OpV_assign rfl) rfl ?_
     refine lxE_nil (hS.pick [4, 5, 6, 7, 8, 9, 10, 11, 12] (by decide) rfl) ?_
     refine QE_then_n ?_
     exact wpC_le _ (by exact ⟨rfl, rfl, rfl, rfl, trivial⟩) (hK_87 x_85 _ _ ⟨rfl, (hS.pick [4, 5, 6, 7] (by decide) rfl)⟩ h)
    case false =>
     have h := if_f h hb_79
     try simp only [hb_79]
     refine lxE_gskip (b := false) (t := 89) (hS.pick [2, 3, 4, 5, 6, 7, 8, 9, 10] (by decide) rfl) rfl rfl rfl rfl rfl rfl ?_
     refine lxE_gskip (b := false) (t := 89) (hS.pick [2, 3, 4, 5, 6, 7, 8, 9, 10] (by decide) rfl) rfl rfl rfl rfl rfl rfl ?_
     refine lxE_gskipL (b := false) (t := 89) (hS.pick [2, 3, 4, 5, 6, 7, 8, 9, 10] (by decide) rfl) rfl rfl rfl rfl rfl rfl ?_
     refine lxE_gskipL (b := false) (t := 89) (hS.pick [2, 3, 4, 5, 6, 7, 8, 9, 10] (by decide) rfl) rfl rfl rfl rfl rfl rfl ?_
     refine lxE_v (hS.pick [2, 3, 4, 5, 6, 7, 8, 9, 10] (by decide) rfl) rfl rfl (fun w hF => OpV_pickF rfl rfl) rfl ?_
     refine lxE_v (hS.pick [2, 3, 4, 5, 6, 7, 8, 9, 10] (by decide) rfl) rfl rfl (fun w hF => OpV_assign rfl) rfl ?_
     refine lxE_nil (hS.pick [2, 3, 4, 5, 6, 7, 8, 9, 10] (by decide) rfl) ?_
     refine QE_then_n ?_
     exact wpC_le _ (by exact ⟨rfl, rfl, rfl, rfl, trivial⟩) (hK_87 false _ _ ⟨rfl, (hS.pick [2, 3, 4, 5] (by decide) rfl)⟩ h)
   case false =>
    have h := if_f h hb_74
    try simp only [hb_74]
    refine lxE_gskip (b := false) (t := 83) (hS.pick [1, 2, 3, 4, 5, 6, 7, 8, 9] (by decide) rfl) rfl rfl rfl rfl rfl rfl ?_
    refine lxE_gskip (b := false) (t := 83) (hS.pick [1, 2, 3, 4, 5, 6, 7, 8, 9] (by decide) rfl) rfl rfl rfl rfl rfl rfl ?_
    refine lxE_gskipL (b := false) (t := 83) (hS.pick [1, 2, 3, 4, 5, 6, 7, 8, 9] (by decide) rfl) rfl rfl rfl rfl rfl rfl ?_
    refine lxE_gskipL (b := false) (t := 83) (hS.pick [1, 2, 3, 4, 5, 6, 7, 8, 9] (by decide) rfl) rfl rfl rfl rfl rfl rfl ?_
    refine lxE_v (hS.pick [1, 2, 3, 4, 5, 6, 7, 8, 9] (by decide) rfl) rfl rfl (fun w hF => OpV_pickF rfl rfl) rfl ?_
    refine lxE_v (hS.pick [1, 2, 3, 4, 5, 6, 7, 8, 9] (by decide) rfl) rfl rfl (fun w hF => OpV_move rfl) rfl ?_
    refine lxE_gskip (b := false) (t := 89) (hS.pick [1, 2, 3, 4, 5, 6, 7, 8, 9] (by decide) rfl) rfl rfl rfl rfl rfl rfl ?_
    refine lxE_gskip (b := false) (t := 89) (hS.pick [1, 2, 3, 4, 5, 6, 7, 8, 9] (by decide) rfl) rfl rfl rfl rfl rfl rfl ?_
    refine lxE_gskipL (b := false) (t := 89) (hS.pick [1, 2, 3, 4, 5, 6, 7, 8, 9] (by decide) rfl) rfl rfl rfl rfl rfl rfl ?_
    refine lxE_gskipL (b := false) (t := 89) (hS.pick [1, 2, 3, 4, 5, 6, 7, 8, 9] (by decide) rfl) rfl rfl rfl rfl rfl rfl ?_
    refine lxE_v (hS.pick [1, 2, 3, 4, 5, 6, 7, 8, 9] (by decide) rfl) rfl rfl (fun w hF => OpV_pickF rfl rfl) rfl ?_
    refine lxE_v (hS.pick [1, 2, 3, 4, 5, 6, 7, 8, 9] (by decide) rfl) rfl rfl (fun w hF => OpV_assign rfl) rfl ?_
    refine lxE_nil (hS.pick [1, 2, 3, 4, 5, 6, 7, 8, 9] (by decide) rfl) ?_
    refine QE_then_n ?_
    exact wpC_le _ (by exact ⟨rfl, rfl, rfl, rfl, trivial⟩) (hK_87 false _ _ ⟨rfl, (hS.pick [1, 2, 3, 4] (by decide) rfl)⟩ h)
  case false =>
   have h := if_f h hb_69
   try simp only [hb_69]
   refine lxE_gskip (b := false) (t := 77) hS rfl rfl rfl rfl rfl rfl ?_
   refine lxE_gskip (b := false) (t := 77) hS rfl rfl rfl rfl rfl rfl ?_
   refine lxE_gskipL (b := false) (t := 77) hS rfl rfl rfl rfl rfl rfl ?_
   refine lxE_gskipL (b := false) (t := 77) hS rfl rfl rfl rfl rfl rfl ?_
   refine lxE_v hS rfl rfl (fun w hF => OpV_pickF rfl rfl) rfl ?_
   refine lxE_v hS rfl rfl (fun w hF => OpV_move rfl) rfl ?_
   refine lxE_gskip (b := false) (t := 83) hS rfl rfl rfl rfl rfl rfl ?_
   refine lxE_gskip (b := false) (t := 83) hS rfl rfl rfl rfl rfl rfl ?_
   refine lxE_gskipL (b := false) (t := 83) hS rfl rfl rfl rfl rfl rfl ?_
   refine lxE_gskipL (b := false) (t := 83) hS rfl rfl rfl rfl rfl rfl ?_
   refine lxE_v hS rfl rfl (fun w hF => OpV_pickF rfl rfl) rfl ?_
   refine lxE_v hS rfl rfl (fun w hF => OpV_move rfl) rfl ?_
   refine lxE_gskip (b := false) (t := 89) hS rfl rfl rfl rfl rfl rfl ?_
   refine lxE_gskip (b := false) (t := 89) hS rfl rfl rfl rfl rfl rfl ?_
   refine lxE_gskipL (b := false) (t := 89) hS rfl rfl rfl rfl rfl rfl ?_
   refine lxE_gskipL (b := false) (t := 89) hS rfl rfl rfl rfl rfl rfl ?_
   refine lxE_v hS rfl rfl (fun w hF => OpV_pickF rfl rfl) rfl ?_
   refine lxE_v hS rfl rfl (fun w hF => OpV_assign rfl) rfl ?_
   refine lxE_nil hS ?_
   refine QE_then_n ?_
   exact wpC_le _ (by exact ⟨rfl, rfl, rfl, rfl, trivial⟩) (hK_87 false _ _ ⟨rfl, (hS.pick [0, 1, 2, 3] (by decide) rfl)⟩ h)
 rintro x_86 L w hJ h
 try dsimp only at hJ
 obtain ⟨rfl, hS⟩ := hJ
 unfold F.law11_CurveKnows_K3 at h
 refine wpC_seq ?_
 refine wpC_regionT (fun w' => St [] w0 w' [OE.bx b_1 [va1_0, va1_1, vB a1_2], OE.bx b_10 [slV v_4 e32.sz 0 x_3.1.2, slV v_7 e32.sz 0 x_3.2.1.2, vB x_3.2.2], own e32 v_4 x_3.1.1, own e32 v_7 x_3.2.1.1]) (fun i => !([3, 5, 6, 10, 12, 13, 17, 19, 20, 25, 28].contains i)) hmix (fun _ _ _ hf => hf.2) (fun _ _ hf => hf) (by kernel_rfl) ?_
 have hS := hS.drew
 show lxE _ _ _ _ _ _ _ [0, 1, 2, 3, 4, 5, 6, 7, 8, 9, 10, 11, 12, 13, 14, 15, 16, 17, 18, 19, 20, 21, 22, 23, 24, 25, 26, 27, 28, 29, 30, 31] _ _
 refine lxE_v hS rfl rfl (fun w hF => OpV_move rfl) rfl ?_
 refine lxE_v hS rfl rfl (fun w hF => OpV_move rfl) rfl ?_
 cases hb_88 : x_86
 case true =>
  have h := if_t h hb_88
  try simp only [hb_88]
  refine lxE_gv (t := 96) hS rfl rfl rfl rfl (fun w hF => OpV_move rfl) rfl ?_
  obtain ⟨x_89, hx_89, h⟩ := obind_some h
  refine lxE_gcall (t := 96) hS rfl rfl rfl rfl (by kernel_rfl) rfl (c_curve_Field _ a0    _ hx_89) rfl ?_
  rintro v_90 w hS1
  have hS := hS.call hS1
  simp only [List.cons_append, List.nil_append] at hS
  refine lxE_gv (t := 96) (hS.pick [1, 2, 3, 4] (by decide) rfl) rfl rfl rfl rfl (fun w hF => OpV_move rfl) rfl ?_
  obtain ⟨x_92, hx_92, h⟩ := obind_some h
  refine lxE_gcall (t := 96) (hS.pick [1, 2, 3, 4] (by decide) rfl) rfl rfl rfl rfl (by kernel_rfl) rfl (c_ref11_Field _ a0    _ hx_92) rfl ?_
  rintro v_93 w hS1
  have hS := hS.call hS1
  simp only [List.cons_append, List.nil_append] at hS
  obtain ⟨x_95, hx_95, h⟩ := obind_some h
  refine lxE_gcall (t := 96) (hS.pick [2, 3, 4, 5] (by decide) rfl) rfl rfl rfl rfl (by kernel_rfl) rfl (c_law11_sameNat _ x_89 x_92 v_90 v_93  (hS.ro 1 rfl).rp (hS.ro 0 rfl).rp _ hx_95) rfl ?_
  rintro _ w ⟨rfl, hS1⟩
  have hS := hS.call hS1
  simp only [List.cons_append, List.nil_append] at hS
  refine lxE_v (hS.pick [2, 3, 4, 5] (by decide) rfl) rfl rfl (fun w hF => OpV_pickT rfl rfl) rfl ?_
  refine lxE_v (hS.pick [2, 3, 4, 5] (by decide) rfl) rfl rfl (fun w hF => OpV_move rfl) rfl ?_
  cases hb_96 : x_95
  case true =>
   have h := if_t h hb_96
   try simp only [hb_96]
   refine lxE_gv (t := 103) (hS.pick [2, 3, 4, 5] (by decide) rfl) rfl rfl rfl rfl (fun w hF => OpV_move rfl) rfl ?_
   obtain ⟨x_97, hx_97, h⟩ := obind_some h
   refine lxE_gcall (t := 103) (hS.pick [2, 3, 4, 5] (by decide) rfl) rfl rfl rfl rfl (by kernel_rfl) rfl (c_curve_Order _ a0    _ hx_97) rfl ?_
   rintro v_98 w hS1
   have hS := hS.call hS1
   simp only [List.cons_append, List.nil_append] at hS
   refine lxE_gv (t := 103) (hS.pick [3, 4, 5, 6] (by decide) rfl) rfl rfl rfl rfl (fun w hF => OpV_move rfl) rfl ?_
   obtain ⟨x_100, hx_100, h⟩ := obind_some h
   refine lxE_gcall (t := 103) (hS.pick [3, 4, 5, 6] (by decide) rfl) rfl rfl rfl rfl (by kernel_rfl) rfl (c_ref11_Order _ a0    _ hx_100) rfl ?_
   rintro v_101 w hS1
   have hS := hS.call hS1
   simp only [List.cons_append, List.nil_append] at hS
   obtain ⟨x_103, hx_103, h⟩ := obind_some h
   refine lxE_gcall (t := 103) (hS.pick [4, 5, 6, 7] (by decide) rfl) rfl rfl rfl rfl (by kernel_rfl) rfl (c_law11_sameNat _ x_97 x_100 v_98 v_101  (hS.ro 1 rfl).rp (hS.ro 0 rfl).rp _ hx_103) rfl ?_
   rintro _ w ⟨rfl, hS1⟩
   have hS := hS.call hS1
   simp only [List.cons_append, List.nil_append] at hS
   refine lxE_v (hS.pick [4, 5, 6, 7] (by decide) rfl) rfl rfl (fun w hF => OpV_pickT rfl rfl) rfl ?_
   refine lxE_v (hS.pick [4, 5, 6, 7] (by decide) rfl) rfl rfl (fun w hF => OpV_move rfl) rfl ?_
   cases hb_104 : x_103
   case true =>
    have h := if_t h hb_104
    try simp only [hb_104]
    refine lxE_gv (t := 110) (hS.pick [4, 5, 6, 7] (by decide) rfl) rfl rfl rfl rfl (fun w hF => OpV_move rfl) rfl ?_
    obtain ⟨x_105, hx_105, h⟩ := obind_some h
    refine lxE_gcall (t := 110) (hS.pick [4, 5, 6, 7] (by decide) rfl) rfl rfl rfl rfl (by kernel_rfl) rfl (c_curve_Base _ a0    _ hx_105) rfl ?_
    rintro _ w ⟨v_106, v_108, rfl, hS1⟩
    have hS := hS.call hS1
    simp only [List.cons_append, List.nil_append] at hS
    refine lxE_gv (t := 110) (hS.pick [6, 7, 8, 9] (by decide) rfl) rfl rfl rfl rfl (fun w hF => OpV_move rfl) rfl ?_
    obtain ⟨x_110, hx_110, h⟩ := obind_some h
    refine lxE_gcall (t := 110) (hS.pick [6, 7, 8, 9] (by decide) rfl) rfl rfl rfl rfl (by kernel_rfl) rfl (c_ref11_Base _ a0    _ hx_110) rfl ?_
    rintro _ w ⟨v_111, v_113, rfl, hS1⟩
    have hS := hS.call hS1
    simp only [List.cons_append, List.nil_append] at hS
    obtain ⟨x_115, hx_115, h⟩ := obind_some h
    refine lxE_gcall (t := 110) (hS.pick [8, 9, 10, 11] (by decide) rfl) rfl rfl rfl rfl (by kernel_rfl) rfl (c_law11_same _ x_105.1 x_105.2.1 x_105.2.2 x_110.1 x_110.2.1 x_110.2.2 v_106 v_108 v_111 v_113  (hS.ro 2 rfl).rp (hS.ro 3 rfl).rp (hS.ro 0 rfl).rp (hS.ro 1 rfl).rp _ hx_115) rfl ?_
    rintro _ w ⟨rfl, hS1⟩
    have hS := hS.call hS1
    simp only [List.cons_append, List.nil_append] at hS
    refine lxE_v (hS.pick [8, 9, 10, 11] (by decide) rfl) rfl rfl (fun w hF => OpV_pickT rfl rfl) rfl ?_
    refine lxE_v (hS.pick [8, 9, 10, 11] (by decide) rfl) rfl rfl (fun w hF => OpV_move rfl) rfl ?_
    cases hb_116 : x_115
    case true =>
     have h := if_t h hb_116
     try simp only [hb_116]
     refine lxE_gv (t := 117) (hS.pick [8, 9, 10, 11] (by decide) rfl) rfl rfl rfl rfl (fun w hF => OpV_move rfl) rfl ?_
     refine lxE_gv (t := 117) (hS.pick [8, 9, 10, 11] (by decide) rfl) rfl rfl rfl rfl (fun w hF => OpV_ldBs (us := [slV v_4 e32.sz 0 x_3.1.2, slV v_7 e32.sz 0 x_3.2.1.2, vB x_3.2.2]) Try.underlying26 rfl sz26 rfl (hF.bxs 1 rfl rfl)) rfl ?_
     obtain ⟨x_117, hx_117, h⟩ := obind_some h
     refine lxE_gcall (t := 117) (hS.pick [8, 9, 10, 11] (by decide) rfl) rfl rfl rfl rfl (by kernel_rfl) rfl (c_curve_On _ a0 (x_3.1.1.take x_3.1.2) (x_3.2.1.1.take x_3.2.1.2) x_3.2.2 (slV v_4 e32.sz 0 x_3.1.2) (slV v_7 e32.sz 0 x_3.2.1.2)  ((hS.ro 10 rfl).tk hk_6).rp ((hS.ro 11 rfl).tk hk_9).rp _ hx_117) rfl ?_
     rintro _ w ⟨rfl, hS1⟩
     have hS := hS.call hS1
     simp only [List.cons_append, List.nil_append] at hS
     refine lxE_gv (t := 117) (hS.pick [8, 9, 10, 11] (by decide) rfl) rfl rfl rfl rfl (fun w hF => OpV_move rfl) rfl ?_
     refine lxE_gv (t := 117) (hS.pick [8, 9, 10, 11] (by decide) rfl) rfl rfl rfl rfl (fun w hF => OpV_ldBs (us := [va1_0, va1_1, vB a1_2]) Try.underlying26 rfl sz26 rfl (hF.bxs 0 rfl rfl)) rfl ?_
     obtain ⟨x_118, hx_118, h⟩ := obind_some h
     refine lxE_gcall (t := 117) (hS.pick [8, 9, 10, 11] (by decide) rfl) rfl rfl rfl rfl (by kernel_rfl) rfl (c_ref11_On _ a0 a1_0 a1_1 a1_2 va1_0 va1_1  (ha1_0.now hS.fr).rp (ha1_1.now hS.fr).rp _ hx_118) rfl ?_
     rintro _ w ⟨rfl, hS1⟩
     have hS := hS.call hS1
     simp only [List.cons_append, List.nil_append] at hS
     refine lxE_gv (t := 117) (hS.pick [8, 9, 10, 11] (by decide) rfl) rfl rfl rfl rfl (fun w hF => OpV_bin rfl rfl (b_beql _ x_117 x_118 Try.underlying4 rfl)) rfl ?_
     refine lxE_v (hS.pick [8, 9, 10, 11] (by decide) rfl) rfl rfl (fun w hF => OpV_pickT rfl rfl) rfl ?_
     refine lxE_v (hS.pick [8, 9, 10, 11] (by decide) rfl) rfl rfl (fun w hF => OpV_assign rfl) rfl ?_
     refine lxE_nil (hS.pick [8, 9, 10, 11] (by decide) rfl) ?_
     refine QE_then_n (wpC_ret ?_)
     cases h
     exact QE_ret1 rfl rfl ⟨rfl, hS.pick [] (by decide) rfl⟩
    case false =>
     have h := if_f h hb_116
     try simp only [hb_116]
     refine lxE_gskip (b := false) (t := 117) (hS.pick [8, 9, 10, 11] (by decide) rfl) rfl rfl rfl rfl rfl rfl ?_
     refine lxE_gskip (b := false) (t := 117) (hS.pick [8, 9, 10, 11] (by decide) rfl) rfl rfl rfl rfl rfl rfl ?_
     refine lxE_gskipL (b := false) (t := 117) (hS.pick [8, 9, 10, 11] (by decide) rfl) rfl rfl rfl rfl rfl rfl ?_
     refine lxE_gskip (b := false) (t := 117) (hS.pick [8, 9, 10, 11] (by decide) rfl) rfl rfl rfl rfl rfl rfl ?_
     refine lxE_gskip (b := false) (t := 117) (hS.pick [8, 9, 10, 11] (by decide) rfl) rfl rfl rfl rfl rfl rfl ?_
     refine lxE_gskipL (b := false) (t := 117) (hS.pick [8, 9, 10, 11] (by decide) rfl) rfl rfl rfl rfl rfl rfl ?_
     refine lxE_gskip (b := false) (t := 117) (hS.pick [8, 9, 10, 11] (by decide) rfl) rfl rfl rfl rfl rfl rfl ?_
     refine lxE_v (hS.pick [8, 9, 10, 11] (by decide) rfl) rfl rfl (fun w hF => OpV_pickF rfl rfl) rfl ?_
     refine lxE_v (hS.pick [8, 9, 10, 11] (by decide) rfl) rfl rfl (fun w hF => OpV_assign rfl) rfl ?_
     refine lxE_nil (hS.pick [8, 9, 10, 11] (by decide) rfl) ?_
     refine QE_then_n (wpC_ret ?_)
     cases h
     exact QE_ret1 rfl rfl ⟨rfl, hS.pick [] (by decide) rfl⟩
   case false =>
    have h := if_f h hb_104
    try simp only [hb_104]
    refine lxE_gskip (b := false) (t := 110) (hS.pick [4, 5, 6, 7] (by decide) rfl) rfl rfl rfl rfl rfl rfl ?_
    refine lxE_gskipL (b := false) (t := 110) (hS.pick [4, 5, 6, 7] (by decide) rfl) rfl rfl rfl rfl rfl rfl ?_
    refine lxE_gskip (b := false) (t := 110) (hS.pick [4, 5, 6, 7] (by decide) rfl) rfl rfl rfl rfl rfl rfl ?_
    refine lxE_gskipL (b := false) (t := 110) (hS.pick [4, 5, 6, 7] (by decide) rfl) rfl rfl rfl rfl rfl rfl ?_
    refine lxE_gskipL (b := false) (t := 110) (hS.pick [4, 5, 6, 7] (by decide) rfl) rfl rfl rfl rfl rfl rfl ?_
    refine lxE_v (hS.pick [4, 5, 6, 7] (by decide) rfl) rfl rfl (fun w hF => OpV_pickF rfl rfl) rfl ?_
    refine lxE_v (hS.pick [4, 5, 6, 7] (by decide) rfl) rfl rfl (fun w hF => OpV_move rfl) rfl ?_
    refine lxE_gskip (b := false) (t := 117) (hS.pick [4, 5, 6, 7] (by decide) rfl) rfl rfl rfl rfl rfl rfl ?_
    refine lxE_gskip (b := false) (t := 117) (hS.pick [4, 5, 6, 7] (by decide) rfl) rfl rfl rfl rfl rfl rfl ?_
    refine lxE_gskipL (b := false) (t := 117) (hS.pick [4, 5, 6, 7] (by decide) rfl) rfl rfl rfl rfl rfl rfl ?_
    refine lxE_gskip (b := false) (t := 117) (hS.pick [4, 5, 6, 7] (by decide) rfl) rfl rfl rfl rfl rfl rfl ?_
    refine lxE_gskip (b := false) (t := 117) (hS.pick [4, 5, 6, 7] (by decide) rfl) rfl rfl rfl rfl rfl rfl ?_
    refine lxE_gskipL (b := false) (t := 117) (hS.pick [4, 5, 6, 7] (by decide) rfl) rfl rfl rfl rfl rfl rfl ?_
    refine lxE_gskip (b := false) (t := 117) (hS.pick [4, 5, 6, 7] (by decide) rfl) rfl rfl rfl rfl rfl rfl ?_
    refine lxE_v (hS.pick [4, 5, 6, 7] (by decide) rfl) rfl rfl (fun w hF => OpV_pickF rfl rfl) rfl ?_
    refine lxE_v (hS.pick [4, 5, 6, 7] (by decide) rfl) rfl rfl (fun w hF => OpV_assign rfl) rfl ?_
    refine lxE_nil (hS.pick [4, 5, 6, 7] (by decide) rfl) ?_
    refine QE_then_n (wpC_ret ?_)
    cases h
    exact QE_ret1 rfl rfl ⟨rfl, hS.pick [] (by decide) rfl⟩
  case false =>
   have h := if_f h hb_96
   try simp only [hb_96]
   refine lxE_gskip (b := false) (t := 103) (hS.pick [2, 3, 4, 5] (by decide) rfl) rfl rfl rfl rfl rfl rfl ?_
   refine lxE_gskipL (b := false) (t := 103) (hS.pick [2, 3, 4, 5] (by decide) rfl) rfl rfl rfl rfl rfl rfl ?_
   refine lxE_gskip (b := false) (t := 103) (hS.pick [2, 3, 4, 5] (by decide) rfl) rfl rfl rfl rfl rfl rfl ?_
   refine lxE_gskipL (b := false) (t := 103) (hS.pick [2, 3, 4, 5] (by decide) rfl) rfl rfl rfl rfl rfl rfl ?_
   refine lxE_gskipL (b := false) (t := 103) (hS.pick [2, 3, 4, 5] (by decide) rfl) rfl rfl rfl rfl rfl rfl ?_
   refine lxE_v (hS.pick [2, 3, 4, 5] (by decide) rfl) rfl rfl (fun w hF => OpV_pickF rfl rfl) rfl ?_
   refine lxE_v (hS.pick [2, 3, 4, 5] (by decide) rfl) rfl rfl (fun w hF => OpV_move rfl) rfl ?_
   refine lxE_gskip (b := false) (t := 110) (hS.pick [2, 3, 4, 5] (by decide) rfl) rfl rfl rfl rfl rfl rfl ?_
   refine lxE_gskipL (b := false) (t := 110) (hS.pick [2, 3, 4, 5] (by decide) rfl) rfl rfl rfl rfl rfl rfl ?_
   refine lxE_gskip (b := false) (t := 110) (hS.pick [2, 3, 4, 5] (by decide) rfl) rfl rfl rfl rfl rfl rfl ?_
   refine lxE_gskipL (b := false) (t := 110) (hS.pick [2, 3, 4, 5] (by decide) rfl) rfl rfl rfl rfl rfl rfl ?_
   refine lxE_gskipL (b := false) (t := 110) (hS.pick [2, 3, 4, 5] (by decide) rfl) rfl rfl rfl rfl rfl rfl ?_
   refine lxE_v (hS.pick [2, 3, 4, 5] (by decide) rfl) rfl rfl (fun w hF => OpV_pickF rfl rfl) rfl ?_
   refine lxE_v (hS.pick [2, 3, 4, 5] (by decide) rfl) rfl rfl (fun w hF => OpV_move rfl) rfl ?_
   refine lxE_gskip (b := false) (t := 117) (hS.pick [2, 3, 4, 5] (by decide) rfl) rfl rfl rfl rfl rfl rfl ?_
   refine lxE_gskip (b := false) (t := 117) (hS.pick [2, 3, 4, 5] (by decide) rfl) rfl rfl rfl rfl rfl rfl ?_
   refine lxE_gskipL (b := false) (t := 117) (hS.pick [2, 3, 4, 5] (by decide) rfl) rfl rfl rfl rfl rfl rfl ?_
   refine lxE_gskip (b := false) (t := 117) (hS.pick [2, 3, 4, 5] (by decide) rfl) rfl rfl rfl rfl rfl rfl ?_
   refine lxE_gskip (b := false) (t := 117) (hS.pick [2, 3, 4, 5] (by decide) rfl) rfl rfl rfl rfl rfl rfl ?_
   refine lxE_gskipL (b := false) (t := 117) (hS.pick [2, 3, 4, 5] (by decide) rfl) rfl rfl rfl rfl rfl rfl ?_
   refine lxE_gskip (b := false) (t := 117) (hS.pick [2, 3, 4, 5] (by decide) rfl) rfl rfl rfl rfl rfl rfl ?_
   refine lxE_v (hS.pick [2, 3, 4, 5] (by decide) rfl) rfl rfl (fun w hF => OpV_pickF rfl rfl) rfl ?_
   refine lxE_v (hS.pick [2, 3, 4, 5] (by decide) rfl) rfl rfl (fun w hF => OpV_assign rfl) rfl ?_
   refine lxE_nil (hS.pick [2, 3, 4, 5] (by decide) rfl) ?_
   refine QE_then_n (wpC_ret ?_)
   cases h
   exact QE_ret1 rfl rfl ⟨rfl, hS.pick [] (by decide) rfl⟩
 case false =>
  have h := if_f h hb_88
  try simp only [hb_88]
  refine lxE_gskip (b := false) (t := 96) hS rfl rfl rfl rfl rfl rfl ?_
  refine lxE_gskipL (b := false) (t := 96) hS rfl rfl rfl rfl rfl rfl ?_
  refine lxE_gskip (b := false) (t := 96) hS rfl rfl rfl rfl rfl rfl ?_
  refine lxE_gskipL (b := false) (t := 96) hS rfl rfl rfl rfl rfl rfl ?_
  refine lxE_gskipL (b := false) (t := 96) hS rfl rfl rfl rfl rfl rfl ?_
  refine lxE_v hS rfl rfl (fun w hF => OpV_pickF rfl rfl) rfl ?_
  refine lxE_v hS rfl rfl (fun w hF => OpV_move rfl) rfl ?_
  refine lxE_gskip (b := false) (t := 103) hS rfl rfl rfl rfl rfl rfl ?_
  refine lxE_gskipL (b := false) (t := 103) hS rfl rfl rfl rfl rfl rfl ?_
  refine lxE_gskip (b := false) (t := 103) hS rfl rfl rfl rfl rfl rfl ?_
  refine lxE_gskipL (b := false) (t := 103) hS rfl rfl rfl rfl rfl rfl ?_
  refine lxE_gskipL (b := false) (t := 103) hS rfl rfl rfl rfl rfl rfl ?_
  refine lxE_v hS rfl rfl (fun w hF => OpV_pickF rfl rfl) rfl ?_
  refine lxE_v hS rfl rfl (fun w hF => OpV_move rfl) rfl ?_
  refine lxE_gskip (b := false) (t := 110) hS rfl rfl rfl rfl rfl rfl ?_
  refine lxE_gskipL (b := false) (t := 110) hS rfl rfl rfl rfl rfl rfl ?_
  refine lxE_gskip (b := false) (t := 110) hS rfl rfl rfl rfl rfl rfl ?_
  refine lxE_gskipL (b := false) (t := 110) hS rfl rfl rfl rfl rfl rfl ?_
  refine lxE_gskipL (b := false) (t := 110) hS rfl rfl rfl rfl rfl rfl ?_
  refine lxE_v hS rfl rfl (fun w hF => OpV_pickF rfl rfl) rfl ?_
  refine lxE_v hS rfl rfl (fun w hF => OpV_move rfl) rfl ?_
  refine lxE_gskip (b := false) (t := 117) hS rfl rfl rfl rfl rfl rfl ?_
  refine lxE_gskip (b := false) (t := 117) hS rfl rfl rfl rfl rfl rfl ?_
  refine lxE_gskipL (b := false) (t := 117) hS rfl rfl rfl rfl rfl rfl ?_
  refine lxE_gskip (b := false) (t := 117) hS rfl rfl rfl rfl rfl rfl ?_
  refine lxE_gskip (b := false) (t := 117) hS rfl rfl rfl rfl rfl rfl ?_
  refine lxE_gskipL (b := false) (t := 117) hS rfl rfl rfl rfl rfl rfl ?_
  refine lxE_gskip (b := false) (t := 117) hS rfl rfl rfl rfl rfl rfl ?_
  refine lxE_v hS rfl rfl (fun w hF => OpV_pickF rfl rfl) rfl ?_
  refine lxE_v hS rfl rfl (fun w hF => OpV_assign rfl) rfl ?_
  refine lxE_nil hS ?_
  refine QE_then_n (wpC_ret ?_)
  cases h
  exact QE_ret1 rfl rfl ⟨rfl, hS.pick [] (by decide) rfl⟩
end Go.Proofs
