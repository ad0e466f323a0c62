import Derived.Test.YtmpcjpcipmdgeaaDoorTW0
import Derived.Test.YtmpcjpcipmdgeaaDoorGkFref18
import Derived.Test.YtmpcjpcipmdgeaaDoorTWref4
import Derived.Test.YtmpcjpcipmdgeaaDoorTWref5
set_option linter.unusedVariables false
set_option linter.unusedSimpArgs false
set_option linter.unusedVariables false
set_option maxRecDepth 4000
namespace Go.Proofs
open Go Go.RowKit Go.Gk
theorem c_ref18_Rows (w0 : World)    (r : List (Int × Int × Int × Int × Int))
  (h : F.ref18_Rows  = some r) : Calls Tryd.prog 18 #[] w0 (Ret fun v w => St [] w0 w [own (eP eI (eP eI (eP eI (eP eI eI)))) v r]) := by
 refine calls_at 14 Tryd.func18 rfl rfl rfl ?_
 have hS := St.start w0
 refine wpC_le [] trivial ?_
 unfold F.ref18_Rows at h
 refine wpC_seq (wpC_region (wpR_run 1 rfl ?_))
 refine wpR_nil (QE_then_n (wpC_seq (wpC_region (wpR_v (OpV_build (vs := [(0, vI 1, [vI 1]), (1, vI 1, [vI 1]), (2, vI 0, [vI 0]), (3, vI 1, [vI 1]), (4, vI 1, [vI 1])]) (cells := [vI 1, vI 1, vI 0, vI 1, vI 1]) rfl lay39 ⟨rfl, rfl, rfl, rfl, rfl, trivial⟩ rfl) rfl ?_))))
 refine wpR_v (OpV_build (vs := [(0, vI 2, [vI 2]), (1, vI 1, [vI 1]), (2, vI 0, [vI 0]), (3, vI 2, [vI 2]), (4, vI 1, [vI 1])]) (cells := [vI 2, vI 1, vI 0, vI 2, vI 1]) rfl lay39 ⟨rfl, rfl, rfl, rfl, rfl, trivial⟩ rfl) rfl ?_
 refine wpR_v (OpV_build (vs := [(0, vI 3, [vI 3]), (1, vI 1, [vI 1]), (2, vI 0, [vI 0]), (3, vI 3, [vI 3]), (4, vI 1, [vI 1])]) (cells := [vI 3, vI 1, vI 0, vI 3, vI 1]) rfl lay39 ⟨rfl, rfl, rfl, rfl, rfl, trivial⟩ rfl) rfl ?_
 refine wpR_v (OpV_build (vs := [(0, vI 4, [vI 4]), (1, vI 2, [vI 2]), (2, vI 0, [vI 0]), (3, vI 1, [vI 1]), (4, vI 2, [vI 2])]) (cells := [vI 4, vI 2, vI 0, vI 1, vI 2]) rfl lay39 ⟨rfl, rfl, rfl, rfl, rfl, trivial⟩ rfl) rfl ?_
 refine wpR_v (OpV_build (vs := [(0, vI 5, [vI 5]), (1, vI 2, [vI 2]), (2, vI 0, [vI 0]), (3, vI 2, [vI 2]), (4, vI 2, [vI 2])]) (cells := [vI 5, vI 2, vI 0, vI 2, vI 2]) rfl lay39 ⟨rfl, rfl, rfl, rfl, rfl, trivial⟩ rfl) rfl ?_
 refine wpR_v (OpV_build (vs := [(0, vI 6, [vI 6]), (1, vI 2, [vI 2]), (2, vI 0, [vI 0]), (3, vI 3, [vI 3]), (4, vI 2, [vI 2])]) (cells := [vI 6, vI 2, vI 0, vI 3, vI 2]) rfl lay39 ⟨rfl, rfl, rfl, rfl, rfl, trivial⟩ rfl) rfl ?_
 refine wpR_v (OpV_build (vs := [(0, vI 7, [vI 7]), (1, vI 2, [vI 2]), (2, vI 0, [vI 0]), (3, vI 1, [vI 1]), (4, vI 3, [vI 3])]) (cells := [vI 7, vI 2, vI 0, vI 1, vI 3]) rfl lay39 ⟨rfl, rfl, rfl, rfl, rfl, trivial⟩ rfl) rfl ?_
 refine wpR_v (OpV_build (vs := [(0, vI 8, [vI 8]), (1, vI 2, [vI 2]), (2, vI 0, [vI 0]), (3, vI 2, [vI 2]), (4, vI 3, [vI 3])]) (cells := [vI 8, vI 2, vI 0, vI 2, vI 3]) rfl lay39 ⟨rfl, rfl, rfl, rfl, rfl, trivial⟩ rfl) rfl ?_
 refine wpR_v (OpV_build (vs := [(0, vI 9, [vI 9]), (1, vI 2, [vI 2]), (2, vI 0, [vI 0]), (3, vI 3, [vI 3]), (4, vI 3, [vI 3])]) (cells := [vI 9, vI 2, vI 0, vI 3, vI 3]) rfl lay39 ⟨rfl, rfl, rfl, rfl, rfl, trivial⟩ rfl) rfl ?_
 refine wpR_v (OpV_build (vs := [(0, vI 10, [vI 10]), (1, vI 3, [vI 3]), (2, vI 1, [vI 1]), (3, vI 1, [vI 1]), (4, vI 4, [vI 4])]) (cells := [vI 10, vI 3, vI 1, vI 1, vI 4]) rfl lay39 ⟨rfl, rfl, rfl, rfl, rfl, trivial⟩ rfl) rfl ?_
 refine wpR_v (OpV_build (vs := [(0, vI 11, [vI 11]), (1, vI 3, [vI 3]), (2, vI 2, [vI 2]), (3, vI 2, [vI 2]), (4, vI 4, [vI 4])]) (cells := [vI 11, vI 3, vI 2, vI 2, vI 4]) rfl lay39 ⟨rfl, rfl, rfl, rfl, rfl, trivial⟩ rfl) rfl ?_
 refine wpR_v (OpV_build (vs := [(0, vI 12, [vI 12]), (1, vI 4, [vI 4]), (2, vI 3, [vI 3]), (3, vI 0, [vI 0]), (4, vI 5, [vI 5])]) (cells := [vI 12, vI 4, vI 3, vI 0, vI 5]) rfl lay39 ⟨rfl, rfl, rfl, rfl, rfl, trivial⟩ rfl) rfl ?_
 refine wpR_x (OpX_litE (e := (eP eI (eP eI (eP eI (eP eI eI))))) (l := ([(1, 1, 0, 1, 1), (2, 1, 0, 2, 1), (3, 1, 0, 3, 1), (4, 2, 0, 1, 2), (5, 2, 0, 2, 2), (6, 2, 0, 3, 2), (7, 2, 0, 1, 3), (8, 2, 0, 2, 3), (9, 2, 0, 3, 3), (10, 3, 1, 1, 4), (11, 3, 2, 2, 4), (12, 4, 3, 0, 5)] : List (Int × Int × Int × Int × Int))) (vs := [(0, .agg #[vI 1, vI 1, vI 0, vI 1, vI 1], [vI 1, vI 1, vI 0, vI 1, vI 1]), (1, .agg #[vI 2, vI 1, vI 0, vI 2, vI 1], [vI 2, vI 1, vI 0, vI 2, vI 1]), (2, .agg #[vI 3, vI 1, vI 0, vI 3, vI 1], [vI 3, vI 1, vI 0, vI 3, vI 1]), (3, .agg #[vI 4, vI 2, vI 0, vI 1, vI 2], [vI 4, vI 2, vI 0, vI 1, vI 2]), (4, .agg #[vI 5, vI 2, vI 0, vI 2, vI 2], [vI 5, vI 2, vI 0, vI 2, vI 2]), (5, .agg #[vI 6, vI 2, vI 0, vI 3, vI 2], [vI 6, vI 2, vI 0, vI 3, vI 2]), (6, .agg #[vI 7, vI 2, vI 0, vI 1, vI 3], [vI 7, vI 2, vI 0, vI 1, vI 3]), (7, .agg #[vI 8, vI 2, vI 0, vI 2, vI 3], [vI 8, vI 2, vI 0, vI 2, vI 3]), (8, .agg #[vI 9, vI 2, vI 0, vI 3, vI 3], [vI 9, vI 2, vI 0, vI 3, vI 3]), (9, .agg #[vI 10, vI 3, vI 1, vI 1, vI 4], [vI 10, vI 3, vI 1, vI 1, vI 4]), (10, .agg #[vI 11, vI 3, vI 2, vI 2, vI 4], [vI 11, vI 3, vI 2, vI 2, vI 4]), (11, .agg #[vI 12, vI 4, vI 3, vI 0, vI 5], [vI 12, vI 4, vI 3, vI 0, vI 5])]) Tryd.underlying44 ti39 rfl ⟨rfl, rfl, rfl, rfl, rfl, rfl, rfl, rfl, rfl, rfl, rfl, rfl, trivial⟩ rfl rfl (Nat.le_of_ble_eq_true rfl) (Nat.le_of_ble_eq_true rfl) hS) rfl ?_
 rintro v_1 w hS
 refine wpR_run 1 rfl ?_
 refine wpR_nil (QE_then_n (wpC_ret ?_))
 cases h
 exact QE_ret1 rfl rfl (hS.pick [0] (by decide) rfl)
theorem c_ref18_Find (w0 : World) (a0 : Int)   (r : Int × Int × Int × Int × Int × Bool)
  (h : F.ref18_Find a0 = some r) : Calls Tryd.prog 13 #[vI a0] w0 (Ret fun v w => v = .tuple #[.agg #[vI r.1, vI r.2.1, vI r.2.2.1, vI r.2.2.2.1, vI r.2.2.2.2.1], vB r.2.2.2.2.2] ∧ St [] w0 w []) := by
 refine calls_at 25 Tryd.func13 rfl rfl rfl ?_
 have hS := St.start w0
 refine wpC_le [(0, vI a0)] ⟨rfl, trivial⟩ ?_
 unfold F.ref18_Find at h
 refine wpC_seq (wpC_region (wpR_x (OpX_alloc (cs := [vI 0, vI 0, vI 0, vI 0, vI 0]) tz39 rfl hS) rfl ?_))
 rintro _ w ⟨b_1, rfl, hS⟩
 refine wpR_run 1 rfl ?_
 refine wpR_nil (QE_then_n (wpC_seq (wpC_region ?_)))
 obtain ⟨x_3, hx_3, h⟩ := obind_some h
 refine wpR_call (by kernel_rfl) rfl (c_ref18_Rows _     _ hx_3) rfl ?_
 rintro v_4 w hS1
 have hS := hS.call hS1
 simp only [List.cons_append, List.nil_append] at hS
 refine wpR_run 1 rfl ?_
 refine wpR_nil (QE_then_n (wpC_seq (wpC_seq (wpC_region (wpR_run 1 rfl ?_)))))
 refine wpR_nil (QE_then_n (wpC_block ?_))
 refine wpC_le [(0, vI a0), (2, pB b_1 0), (4, v_4), (5, vI 0)] ⟨rfl, rfl, rfl, rfl, trivial⟩ ?_
 refine loop_ind (F.ref18_Find_L1 a0 x_3) (fun (s : Int) L w => L = [(0, vI a0), (2, pB b_1 0), (4, v_4), (5, vI s)] ∧ St [] w0 w [OE.bx b_1 [vI 0, vI 0, vI 0, vI 0, vI 0], own (eP eI (eP eI (eP eI (eP eI eI)))) v_4 x_3]) ?_ 0 ⟨rfl, (hS.pick [1, 0] (by decide) rfl)⟩ h
 rintro k_14 x_6 L w q_9 hI ih_8 h hk_7
 try dsimp only at hI
 obtain ⟨rfl, hS⟩ := hI
 unfold F.ref18_Find_L1 at h
 refine wpC_seq (wpC_seq (wpC_region (wpR_run 2 rfl ?_)))
 refine wpR_v (OpV_len Tryd.underlying44 rfl (hS.ro 1 rfl)) rfl ?_
 refine wpR_run 1 rfl ?_
 refine wpR_nil (QE_then_n ?_)
 refine wpC_cond rfl (fun hb_13 => ?_) (fun hb_13 => ?_)
 ·have h := if_t h hb_13
  refine wpC_skip (QE_then_n (wpC_seq (wpC_block ?_)))
  refine wpC_seq (wpC_region (wpR_run 2 rfl ?_))
  obtain ⟨x_10, hx_10, h⟩ := obind_some h
  refine wpR_v (G_ix Tryd.underlying44 ti39 rfl rfl (hS.ro 1 rfl) hx_10) rfl ?_
  refine wpR_v (OpV_fieldE (k := 0) Tryd.underlying39 rfl rfl nz3 rfl) rfl ?_
  refine wpR_v (G_loadF Tryd.underlying3 rfl rfl (hS.ro 1 rfl) hx_10 rfl rfl) rfl ?_
  refine wpR_run 2 rfl ?_
  refine wpR_nil (QE_then_n ?_)
  refine wpC_cond rfl (fun hb_12 => ?_) (fun hb_12 => ?_)
  ·have h := if_t h hb_12
   refine wpC_seq (wpC_region (wpR_run 2 rfl ?_))
   obtain ⟨x_11, hx_11, h⟩ := obind_some h
   refine wpR_v (G_ix Tryd.underlying44 ti39 rfl rfl (hS.ro 1 rfl) hx_11) rfl ?_
   refine wpR_v (G_loadW Tryd.underlying39 rfl sz39 rfl (hS.ro 1 rfl) hx_11) rfl ?_
   refine wpR_y (OpY_stB (i := 0) (us := [vI x_11.1, vI x_11.2.1, vI x_11.2.2.1, vI x_11.2.2.2.1, vI x_11.2.2.2.2]) rfl sz39 rfl rfl rfl ⟨rfl, rfl, rfl, rfl, rfl, trivial⟩ rfl hS) ?_
   intro w hS
   replace hS : St _ w0 w [OE.bx b_1 [vI x_11.1, vI x_11.2.1, vI x_11.2.2.1, vI x_11.2.2.2.1, vI x_11.2.2.2.2], own (eP eI (eP eI (eP eI (eP eI eI)))) v_4 x_3] := hS
   refine wpR_run 1 rfl ?_
   refine wpR_nil (QE_then_n (wpC_ret (QE_blk_r ?_)))
   refine QE_then_r (QE_then_r ?_)
   have h := oinr_some h hk_7
   refine QE_blk_r ?_
   refine QE_then_r ?_
   cases h
   exact QE_rv2 rfl ⟨_, rfl, run_ldAgg (us := [vI x_11.1, vI x_11.2.1, vI x_11.2.2.1, vI x_11.2.2.2.1, vI x_11.2.2.2.2]) Tryd.underlying39 rfl sz39 (hS.bxs 0 rfl rfl)⟩ rfl ⟨rfl, hS.pick [] (by decide) rfl⟩
  have h := if_f h hb_12
  refine wpC_skip (QE_blk_n ?_)
  refine QE_then_n (wpC_region (wpR_run 3 rfl ?_))
  refine wpR_nil ?_
  exact QE_rnd (wpN_le _ (by exact ⟨rfl, rfl, rfl, rfl, trivial⟩) (ih_8 (wI (x_6 + 1)) _ _ ⟨rfl, hS⟩ (oinl_some h hk_7)))
 have h := if_f h hb_13
 refine wpC_exit ?_
 refine QE_then_x (QE_then_x ?_)
 have h := oinr_some h hk_7
 refine QE_blk_x ?_
 refine QE_then_n (wpC_seq (wpC_region (wpR_v (OpV_build (vs := []) (cells := [vI 0, vI 0, vI 0, vI 0, vI 0]) rfl lay39 trivial rfl) rfl ?_)))
 refine wpR_y (OpY_stB (i := 0) (us := [vI 0, vI 0, vI 0, vI 0, vI 0]) rfl sz39 rfl rfl rfl ⟨rfl, rfl, rfl, rfl, rfl, trivial⟩ rfl hS) ?_
 intro w hS
 replace hS : St _ w0 w [OE.bx b_1 [vI 0, vI 0, vI 0, vI 0, vI 0], own (eP eI (eP eI (eP eI (eP eI eI)))) v_4 x_3] := hS
 refine wpR_run 1 rfl ?_
 refine wpR_nil (QE_then_n (wpC_ret ?_))
 cases h
 exact QE_rv2 rfl ⟨_, rfl, run_ldAgg (us := [vI 0, vI 0, vI 0, vI 0, vI 0]) Tryd.underlying39 rfl sz39 (hS.bxs 0 rfl rfl)⟩ rfl ⟨rfl, hS.pick [] (by decide) rfl⟩
theorem c_ref18_Tag (w0 : World) (a0 : Int) (a1 : List UInt8) (a2 : List UInt8) (va1 : Value) (hT : TB [] w0) (ha1 : RP [] w0 e8 va1 a1) (r : List UInt8 × Int)
  (h : F.ref18_Tag a0 a1 a2 = some r) : Calls Tryd.prog 6 #[vI a0, va1, vS a2] w0 (Ret fun v w => ∃ u0 : Value, v = .tuple #[u0, vI r.2] ∧ St [] w0 w [own e8 u0 r.1]) := by
 refine calls_at 42 Tryd.func6 rfl rfl rfl ?_
 have hS := St.start w0
 refine wpC_le [(0, vI a0), (1, va1), (2, vS a2)] ⟨rfl, rfl, rfl, trivial⟩ ?_
 unfold F.ref18_Tag at h
 refine wpC_seq (wpC_region (wpR_run 2 rfl ?_))
 refine wpR_nil (QE_then_n (wpC_seq (wpC_region (wpR_run 1 rfl ?_))))
 obtain ⟨x_1, hx_1, h⟩ := obind_some h
 refine wpR_call (by kernel_rfl) rfl (c_ref18_Find _ a0    _ hx_1) rfl ?_
 rintro _ w ⟨rfl, hS1⟩
 have hS := hS.call hS1
 simp only [List.cons_append, List.nil_append] at hS
 refine wpR_run 3 rfl ?_
 refine wpR_x (OpX_alloc (cs := [vI 0, vI 0, vI 0, vI 0, vI 0]) tz39 rfl hS) rfl ?_
 rintro _ w ⟨b_2, rfl, hS⟩
 refine wpR_y (OpY_stB (i := 0) (us := [vI x_1.1, vI x_1.2.1, vI x_1.2.2.1, vI x_1.2.2.2.1, vI x_1.2.2.2.2.1]) rfl sz39 rfl rfl rfl ⟨rfl, rfl, rfl, rfl, rfl, trivial⟩ rfl hS) ?_
 intro w hS
 replace hS : St _ w0 w [OE.bx b_2 [vI x_1.1, vI x_1.2.1, vI x_1.2.2.1, vI x_1.2.2.2.1, vI x_1.2.2.2.2.1]] := hS
 refine wpR_run 1 rfl ?_
 refine wpR_nil (QE_then_n (wpC_seq ?_))
 refine seq_join (r := r) (fun (g : Bool) L w => L = [(1, va1), (2, vS a2), (8, pB b_2 0), (22, vB g)] ∧ St [] w0 w [OE.bx b_2 [vI x_1.1, vI x_1.2.1, vI x_1.2.2.1, vI x_1.2.2.2.1, vI x_1.2.2.2.2.1]]) (F.ref18_Tag_K1 a1 x_1 a2) ?_ ?_
 rotate_left
 ·intro hK_6
  refine wpC_region (wpR_run 3 rfl ?_)
  cases hb_4 : (!x_1.2.2.2.2.2)
  case true =>
   have h := if_t h hb_4
   try simp only [hb_4]
   refine wpR_run 4 rfl ?_
   refine wpR_nil (QE_then_n ?_)
   exact wpC_le _ (by exact ⟨rfl, rfl, rfl, rfl, trivial⟩) (hK_6 true _ _ ⟨rfl, hS⟩ h)
  case false =>
   have h := if_f h hb_4
   try simp only [hb_4]
   refine wpR_gv (t := 18) rfl rfl (OpV_fieldB (k := 4) Tryd.underlying39 rfl rfl nz3 rfl) rfl ?_
   refine wpR_gv (t := 18) rfl rfl (OpV_ldB Tryd.underlying3 rfl rfl (hS.bxc 0 rfl 4)) rfl ?_
   refine wpR_run 2 rfl ?_
   refine wpR_nil (QE_then_n ?_)
   exact wpC_le _ (by exact ⟨rfl, rfl, rfl, rfl, trivial⟩) (hK_6 (x_1.2.2.2.2.1 != 1) _ _ ⟨rfl, hS⟩ h)
 rintro x_5 L w hJ h
 try dsimp only at hJ
 obtain ⟨rfl, hS⟩ := hJ
 unfold F.ref18_Tag_K1 at h
 refine wpC_cond rfl (fun hb_18 => ?_) (fun hb_18 => ?_)
 ·have h := if_t h hb_18
  refine wpC_seq (wpC_region (wpR_run 2 rfl ?_))
  refine wpR_nil (QE_then_n (wpC_ret (QE_then_r ?_)))
  cases h
  exact QE_ret2 rfl rfl rfl ⟨.slice none 0 0, rfl, (hS.nil e8).pick [0] (by decide) rfl⟩
 have h := if_f h hb_18
 refine wpC_skip (QE_then_n (wpC_seq ?_))
 refine seq_join (r := r) (fun (g : Bool) L w => L = [(1, va1), (2, vS a2), (8, pB b_2 0), (33, vB g)] ∧ St [] w0 w [OE.bx b_2 [vI x_1.1, vI x_1.2.1, vI x_1.2.2.1, vI x_1.2.2.2.1, vI x_1.2.2.2.2.1]]) (F.ref18_Tag_K2 a1 a2 x_1) ?_ ?_
 rotate_left
 ·intro hK_10
  refine wpC_region (wpR_run 1 rfl ?_)
  refine wpR_v (OpV_len Tryd.underlying23 rfl (ha1.now hS.fr)) rfl ?_
  refine wpR_v (OpV_fieldB (k := 3) Tryd.underlying39 rfl rfl nz3 rfl) rfl ?_
  refine wpR_v (OpV_ldB Tryd.underlying3 rfl rfl (hS.bxc 0 rfl 3)) rfl ?_
  obtain ⟨x_7, hx_7, h⟩ := obind_some h
  refine wpR_call (by kernel_rfl) rfl (c_ref4_Size _ x_1.2.2.2.1    _ hx_7) rfl ?_
  rintro _ w ⟨rfl, hS1⟩
  have hS := hS.call hS1
  simp only [List.cons_append, List.nil_append] at hS
  refine wpR_run 2 rfl ?_
  cases hb_8 : (decide ((a1.length : Int) < x_7))
  case true =>
   have h := if_t h hb_8
   try simp only [hb_8]
   refine wpR_run 4 rfl ?_
   refine wpR_nil (QE_then_n ?_)
   exact wpC_le _ (by exact ⟨rfl, rfl, rfl, rfl, trivial⟩) (hK_10 true _ _ ⟨rfl, hS⟩ h)
  case false =>
   have h := if_f h hb_8
   try simp only [hb_8]
   refine wpR_run 1 rfl ?_
   refine wpR_gv (t := 29) rfl rfl (OpV_len Tryd.underlying23 rfl (ha1.now hS.fr)) rfl ?_
   refine wpR_run 2 rfl ?_
   refine wpR_nil (QE_then_n ?_)
   exact wpC_le _ (by exact ⟨rfl, rfl, rfl, rfl, trivial⟩) (hK_10 (decide ((4096 : Int) < (a1.length : Int))) _ _ ⟨rfl, hS⟩ h)
 rintro x_9 L w hJ h
 try dsimp only at hJ
 obtain ⟨rfl, hS⟩ := hJ
 unfold F.ref18_Tag_K2 at h
 refine wpC_cond rfl (fun hb_17 => ?_) (fun hb_17 => ?_)
 ·have h := if_t h hb_17
  refine wpC_seq (wpC_region (wpR_run 2 rfl ?_))
  refine wpR_nil (QE_then_n (wpC_ret (QE_then_r ?_)))
  cases h
  exact QE_ret2 rfl rfl rfl ⟨.slice none 0 0, rfl, (hS.nil e8).pick [0] (by decide) rfl⟩
 have h := if_f h hb_17
 refine wpC_skip (QE_then_n (wpC_seq (wpC_region (wpR_run 1 rfl ?_))))
 refine wpR_nil (QE_then_n (wpC_seq (wpC_region (wpR_run 2 rfl ?_))))
 obtain ⟨x_11, hx_11, h⟩ := obind_some h
 refine wpR_x (G_appendS0 Tryd.underlying23 Tryd.underlying9 ti5 rfl rfl hS hx_11) rfl ?_
 rintro v_12 w hS
 refine wpR_run 1 rfl ?_
 refine wpR_nil (QE_then_n (wpC_seq (wpC_region (wpR_v (OpV_fieldB (k := 3) Tryd.underlying39 rfl rfl nz3 rfl) rfl ?_))))
 refine wpR_v (OpV_ldB Tryd.underlying3 rfl rfl (hS.bxc 1 rfl 3)) rfl ?_
 refine wpR_run 2 rfl ?_
 obtain ⟨x_14, hx_14, h⟩ := obind_some h
 refine wpR_call (by kernel_rfl) rfl (c_ref5_Sum _ x_1.2.2.2.1 a1 x_11 va1 v_12  (hT.now hS.fr) (ha1.now hS.fr).rp (hS.ro 0 rfl).rp _ hx_14) rfl ?_
 rintro v_15 w hS1
 have hS := hS.call hS1
 simp only [List.cons_append, List.nil_append] at hS
 refine wpR_run 2 rfl ?_
 refine wpR_nil (QE_then_n (wpC_ret ?_))
 cases h
 exact QE_ret2 rfl rfl rfl ⟨v_15, rfl, hS.pick [0] (by decide) rfl⟩
end Go.Proofs
