import Derived.Test.YtgjpaedgcpjigaaDoorYW0
import Derived.Test.YtgjpaedgcpjigaaDoorGkFref30
import Derived.Test.YtgjpaedgcpjigaaDoorYWref30a
set_option linter.unusedVariables false
set_option linter.unusedSimpArgs false
set_option linter.unusedVariables false
set_option maxRecDepth 4000
namespace Go.Proofs
open Go Go.RowKit Go.Gk
theorem c_ref30_Parse (w0 : World) (a0 : List UInt8) (va0 : Value) (ha0 : RP [] w0 e8 va0 a0) (r : List (Int × UInt64 × (List UInt8) × Int) × Int × Int)
  (h : F.ref30_Parse a0 = some r) : Calls Tryd.prog 31 #[va0] w0 (Ret fun v w => ∃ u0 : Value, v = .tuple #[u0, vI r.2.1, vI r.2.2] ∧ St [] w0 w [own (eP eI (eP e64 (eP eS eI))) u0 r.1]) := by
 refine calls_at 52 Tryd.func31 rfl rfl rfl ?_
 have hS := St.start w0
 refine wpC_le [(0, va0)] ⟨rfl, trivial⟩ ?_
 unfold F.ref30_Parse at h
 refine wpC_seq (wpC_region (wpR_v (OpV_assign rfl) rfl (wpR_v (OpV_assign rfl) rfl (wpR_v (OpV_assign rfl) rfl (wpR_nil (QE_then_n ?_))))))
 refine wpC_seq (wpC_seq (wpC_region (wpR_v (OpV_move rfl) rfl (wpR_v (OpV_len Tryd.underlying22 rfl (ha0.now hS.fr)) rfl ?_))))
 refine wpR_v (OpV_bin rfl rfl (b_igtr _ (a0.length : Int) 65536)) rfl ?_
 refine wpR_nil (QE_then_n ?_)
 refine wpC_cond rfl (fun hb_23 => ?_) (fun hb_23 => ?_)
 ·have h := if_t h hb_23
  refine wpC_seq (wpC_region (wpR_v (OpV_assign rfl) rfl (wpR_v (OpV_assign rfl) rfl (wpR_v (OpV_assign rfl) rfl (wpR_nil (QE_then_n ?_))))))
  refine wpC_ret (QE_then_r ?_)
  cases h
  exact QE_ret3 rfl rfl rfl rfl ⟨.slice none 0 0, rfl, (hS.nil (eP eI (eP e64 (eP eS eI)))).pick [0] (by decide) rfl⟩
 ·have h := if_f h hb_23
  refine wpC_skip (QE_then_n (wpC_seq (wpC_region (wpR_v (OpV_move rfl) rfl (wpR_v (OpV_str Tryd.underlying22 Tryd.underlying5 Tryd.underlying9 rfl (ha0.now hS.fr)) rfl ?_)))))
  refine wpR_v (OpV_build (vs := [(0, vS a0, [vS a0])]) (cells := [vS a0, vI 0, .slice none 0 0, vI 0, vI 0]) rfl lay93 ⟨rfl, trivial⟩ rfl) rfl ?_
  refine wpR_x (OpX_box (cs := [vS a0, vI 0, .slice none 0 0, vI 0, vI 0]) rfl rfl hS) rfl ?_
  rintro _ w ⟨b_1, rfl, hS⟩
  refine wpR_v (OpV_assign rfl) rfl (wpR_nil (QE_then_n (wpC_seq (wpC_region (wpR_v (OpV_move rfl) rfl ?_)))))
  replace hS := hS.nil (eP eI (eP e64 (eP eS eI)))
  have hG := hS.pick (os' := [OE.bx b_1 [vS a0, vI 0, .slice none 0 0, vI 0, vI 0], own (eP eI (eP e64 (eP eS eI))) (.slice none 0 0) []] ++ []) [1, 0] (by decide) rfl
  obtain ⟨x_4, hx_4, h⟩ := obind_some h
  refine wpR_call (by kernel_rfl) rfl (c_ref30_Reader_item _ a0 0 [] 0 0 0 (.slice none 0 0) b_1 _ hG.give  _ hx_4) rfl ?_
  rintro _ w ⟨v_5, rfl, hS1⟩
  have hS := hG.back hS1
  simp only [List.cons_append, List.nil_append] at hS
  refine wpR_nil (QE_then_n ?_)
  refine seq_join (r := r) (fun (g : List UInt8 × Int × (List (Int × UInt64 × (List UInt8) × Int)) × Int × Int) L w => ∃ (v_17 : Value), L = [(5, pB b_1 0)] ∧ St [] w0 w [own (eP eI (eP e64 (eP eS eI))) v_17 g.2.2.1, OE.bx b_1 [vS g.1, vI g.2.1, v_17, vI g.2.2.2.1, vI g.2.2.2.2]]) (F.ref30_Parse_K1) ?_ ?_
  ·rintro ⟨x_14, x_15, x_16, x_19, x_20⟩ L w hJ h
   try dsimp only at hJ
   obtain ⟨v_17, rfl, hS⟩ := hJ
   unfold F.ref30_Parse_K1 at h
   refine wpC_seq (wpC_seq (wpC_region (wpR_v (OpV_move rfl) rfl (wpR_v (OpV_nilB rfl) rfl ?_))))
   refine wpR_v (OpV_fieldB (k := 3) Tryd.underlying93 rfl rfl nz30 rfl) rfl ?_
   refine wpR_v (OpV_ldB Tryd.underlying30 rfl rfl (hS.bxc 1 rfl 3)) rfl ?_
   refine wpR_v (OpV_bin rfl rfl (b_ineq _ x_19 0)) rfl ?_
   refine wpR_nil (QE_then_n ?_)
   refine wpC_cond rfl (fun hb_22 => ?_) (fun hb_22 => ?_)
   ·have h := if_t h hb_22
    refine wpC_seq ?_
    refine wpC_regionT (fun w' => St [] w0 w' [own (eP eI (eP e64 (eP eS eI))) v_17 x_16, OE.bx b_1 [vS x_14, vI x_15, v_17, vI x_19, vI x_20]]) (fun _ => true) hmix (fun _ _ _ hf => hf.2) (fun _ _ hf => hf) (by kernel_rfl) ?_
    have hS := hS.drew
    show lxE _ _ _ _ _ _ _ [0, 1, 2, 3, 4, 5, 6, 7, 8, 9, 10] _ _
    refine lxE_v hS rfl rfl (fun w hF => OpV_move rfl) rfl ?_
    refine lxE_v hS rfl rfl (fun w hF => OpV_nilB rfl) rfl ?_
    refine lxE_v hS rfl rfl (fun w hF => OpV_fieldB (k := 3) Tryd.underlying93 rfl rfl nz30 rfl) rfl ?_
    refine lxE_v hS rfl rfl (fun w hF => OpV_ldB Tryd.underlying30 rfl rfl (hF.bxc 1 rfl 3)) rfl ?_
    refine lxE_v hS rfl rfl (fun w hF => OpV_move rfl) rfl ?_
    refine lxE_v hS rfl rfl (fun w hF => OpV_nilB rfl) rfl ?_
    refine lxE_v hS rfl rfl (fun w hF => OpV_fieldB (k := 4) Tryd.underlying93 rfl rfl nz3 rfl) rfl ?_
    refine lxE_v hS rfl rfl (fun w hF => OpV_ldB Tryd.underlying3 rfl rfl (hF.bxc 1 rfl 4)) rfl ?_
    refine lxE_v hS rfl rfl (fun w hF => OpV_assign rfl) rfl ?_
    refine lxE_v hS rfl rfl (fun w hF => OpV_assign rfl) rfl ?_
    refine lxE_v hS rfl rfl (fun w hF => OpV_assign rfl) rfl ?_
    refine lxE_nil hS ?_
    refine QE_then_n (wpC_ret (QE_then_r ?_))
    cases h
    exact QE_ret3 rfl rfl rfl rfl ⟨.slice none 0 0, rfl, (hS.nil (eP eI (eP e64 (eP eS eI)))).pick [0] (by decide) rfl⟩
   ·have h := if_f h hb_22
    refine wpC_skip (QE_then_n (wpC_seq (wpC_region (wpR_v (OpV_move rfl) rfl (wpR_v (OpV_nilB rfl) rfl ?_)))))
    refine wpR_v (OpV_fieldB (k := 2) Tryd.underlying93 rfl rfl nz37 rfl) rfl ?_
    refine wpR_v (OpV_ldB Tryd.underlying37 rfl rfl (hS.bxc 1 rfl 2)) rfl ?_
    refine wpR_v (OpV_assign rfl) rfl (wpR_v (OpV_assign rfl) rfl (wpR_v (OpV_assign rfl) rfl (wpR_nil (QE_then_n (wpC_ret ?_)))))
    cases h
    exact QE_ret3 rfl rfl rfl rfl ⟨v_17, rfl, hS.pick [0] (by decide) rfl⟩
  ·intro hK_21
   refine seq_join (r := r) (fun (g : Bool) L w => L = [(5, pB b_1 0), (28, vB g)] ∧ St [] w0 w [OE.bx b_1 [vS x_4.1, vI x_4.2.1, v_5, vI x_4.2.2.2.1, vI x_4.2.2.2.2], own (eP eI (eP e64 (eP eS eI))) v_5 x_4.2.2.1]) (F.ref30_Parse_K2 x_4) ?_ ?_
   ·rintro x_8 L w hJ h
    try dsimp only at hJ
    obtain ⟨rfl, hS⟩ := hJ
    unfold F.ref30_Parse_K2 at h
    refine wpC_cond rfl (fun hb_13 => ?_) (fun hb_13 => ?_)
    ·have h := if_t h hb_13
     refine wpC_region (wpR_v (OpV_move rfl) rfl (wpR_v (OpV_move rfl) rfl (wpR_v (OpV_nilB rfl) rfl ?_)))
     refine wpR_v (OpV_fieldB (k := 1) Tryd.underlying93 rfl rfl nz3 rfl) rfl ?_
     refine wpR_v (OpV_ldB Tryd.underlying3 rfl rfl (hS.bxc 0 rfl 1)) rfl ?_
     have hG := hS.pick (os' := [OE.bx b_1 [vS x_4.1, vI x_4.2.1, v_5, vI x_4.2.2.2.1, vI x_4.2.2.2.2], own (eP eI (eP e64 (eP eS eI))) v_5 x_4.2.2.1] ++ []) [0, 1] (by decide) rfl
     obtain ⟨x_10, hx_10, h⟩ := obind_some h
     refine wpR_call (by kernel_rfl) rfl (c_ref30_Reader_fail _ x_4.1 x_4.2.1 x_4.2.2.1 x_4.2.2.2.1 x_4.2.2.2.2 220 x_4.2.1 v_5 b_1 _ hG.give  _ hx_10) rfl ?_
     rintro _ w ⟨v_11, rfl, hS1⟩
     have hS := hG.back hS1
     simp only [List.cons_append, List.nil_append] at hS
     refine wpR_nil (QE_then_n ?_)
     exact wpC_le _ (by exact ⟨rfl, trivial⟩) (hK_21 (x_10.1, x_10.2.1, x_10.2.2.1, x_10.2.2.2.1, x_10.2.2.2.2) _ _ ⟨v_11, rfl, (hS.pick [1, 0] (by decide) rfl)⟩ h)
    ·have h := if_f h hb_13
     refine wpC_skip (QE_then_n ?_)
     exact wpC_le _ (by exact ⟨rfl, trivial⟩) (hK_21 (x_4.1, x_4.2.1, x_4.2.2.1, x_4.2.2.2.1, x_4.2.2.2.2) _ _ ⟨v_5, rfl, (hS.pick [1, 0] (by decide) rfl)⟩ h)
   ·intro hK_9
    refine wpC_region (wpR_v (OpV_move rfl) rfl (wpR_v (OpV_nilB rfl) rfl ?_))
    refine wpR_v (OpV_fieldB (k := 3) Tryd.underlying93 rfl rfl nz30 rfl) rfl ?_
    refine wpR_v (OpV_ldB Tryd.underlying30 rfl rfl (hS.bxc 0 rfl 3)) rfl ?_
    refine wpR_v (OpV_bin rfl rfl (b_ieql _ x_4.2.2.2.1 0)) rfl ?_
    refine wpR_v (OpV_move rfl) rfl ?_
    cases hb_7 : (x_4.2.2.2.1 == 0)
    case true =>
     have h := if_t h hb_7
     try simp only [hb_7]
     refine wpR_gv (t := 20) rfl rfl (OpV_move rfl) rfl ?_
     refine wpR_gv (t := 20) rfl rfl (OpV_nilB rfl) rfl ?_
     refine wpR_gv (t := 20) rfl rfl (OpV_fieldB (k := 1) Tryd.underlying93 rfl rfl nz3 rfl) rfl ?_
     refine wpR_gv (t := 20) rfl rfl (OpV_ldB Tryd.underlying3 rfl rfl (hS.bxc 0 rfl 1)) rfl ?_
     refine wpR_gv (t := 20) rfl rfl (OpV_move rfl) rfl ?_
     refine wpR_gv (t := 20) rfl rfl (OpV_len Tryd.underlying22 rfl (ha0.now hS.fr)) rfl ?_
     refine wpR_gv (t := 20) rfl rfl (OpV_bin rfl rfl (b_ilss _ x_4.2.1 (a0.length : Int))) rfl ?_
     refine wpR_v (OpV_pickT rfl rfl) rfl (wpR_nil (QE_then_n ?_))
     exact wpC_le _ (by exact ⟨rfl, rfl, trivial⟩) (hK_9 (decide (x_4.2.1 < (a0.length : Int))) _ _ ⟨rfl, hS⟩ h)
    case false =>
     have h := if_f h hb_7
     try simp only [hb_7]
     refine wpR_gskip (b := false) (t := 20) rfl rfl rfl rfl ?_
     refine wpR_gskip (b := false) (t := 20) rfl rfl rfl rfl ?_
     refine wpR_gskip (b := false) (t := 20) rfl rfl rfl rfl ?_
     refine wpR_gskip (b := false) (t := 20) rfl rfl rfl rfl ?_
     refine wpR_gskip (b := false) (t := 20) rfl rfl rfl rfl ?_
     refine wpR_gskip (b := false) (t := 20) rfl rfl rfl rfl ?_
     refine wpR_gskip (b := false) (t := 20) rfl rfl rfl rfl ?_
     refine wpR_v (OpV_pickF rfl rfl) rfl (wpR_nil (QE_then_n ?_))
     exact wpC_le _ (by exact ⟨rfl, rfl, trivial⟩) (hK_9 false _ _ ⟨rfl, hS⟩ h)
theorem c_ref30_none (w0 : World)    (r : List UInt8 × Int)
  (h : F.ref30_none  = some r) : Calls Tryd.prog 83 #[] w0 (Ret fun v w => v = .agg #[vS r.1, vI r.2] ∧ St [] w0 w []) := by
 refine calls_at 2 Tryd.func83 rfl rfl rfl ?_
 have hS := St.start w0
 refine wpC_le [] trivial ?_
 unfold F.ref30_none at h
 refine wpC_seq (wpC_region (wpR_x (OpX_alloc (cs := [vS [], vI 0]) tz135 rfl hS) rfl ?_))
 rintro _ w ⟨b_1, rfl, hS⟩
 refine wpR_nil (QE_then_n (wpC_seq (wpC_region (wpR_v (OpV_build (vs := [(1, vI (-1), [vI (-1)])]) (cells := [vS [], vI (-1)]) rfl lay135 ⟨rfl, trivial⟩ rfl) rfl ?_))))
 refine wpR_y (OpY_stB (i := 0) (us := [vS [], vI (-1)]) rfl sz135 rfl rfl rfl ⟨rfl, rfl, trivial⟩ rfl hS) ?_
 intro w hS
 replace hS : St _ w0 w [OE.bx b_1 [vS [], vI (-1)]] := hS
 refine wpR_nil (QE_then_n (wpC_ret ?_))
 cases h
 exact QE_rv1 rfl ⟨_, rfl, run_ldAgg (us := [vS [], vI (-1)]) Tryd.underlying135 rfl sz135 (hS.bxs 0 rfl rfl)⟩ ⟨rfl, hS.pick [] (by decide) rfl⟩
theorem c_ref30_Head (w0 : World) (a0 : Int) (a1 : UInt64)   (r : List UInt8)
  (h : F.ref30_Head a0 a1 = some r) : Calls Tryd.prog 50 #[vI a0, v64 a1] w0 (Ret fun v w => v = vS r ∧ St [] w0 w []) := by
 refine calls_at 53 Tryd.func50 rfl rfl rfl ?_
 have hS := St.start w0
 refine wpC_le [(0, vI a0), (1, v64 a1)] ⟨rfl, rfl, trivial⟩ ?_
 unfold F.ref30_Head at h
 refine wpC_seq (wpC_region (wpR_v (OpV_assign rfl) rfl (wpR_nil (QE_then_n (wpC_seq (wpC_region ?_))))))
 refine wpR_v (OpV_move rfl) rfl ?_
 obtain ⟨x_1, hx_1, h⟩ := obind_some h
 refine wpR_call (by kernel_rfl) rfl (c_ref30_wide _ a1    _ hx_1) rfl ?_
 rintro _ w ⟨rfl, hS1⟩
 have hS := hS.call hS1
 simp only [List.cons_append, List.nil_append] at hS
 refine wpR_v (OpV_assign rfl) rfl (wpR_nil (QE_then_n (wpC_seq (wpC_seq (wpC_region (wpR_v (OpV_move rfl) rfl ?_))))))
 refine wpR_v (OpV_bin rfl rfl (b_ieql _ x_1 0)) rfl ?_
 refine wpR_nil (QE_then_n ?_)
 refine wpC_cond rfl (fun hb_27 => ?_) (fun hb_27 => ?_)
 ·have h := if_t h hb_27
  refine wpC_seq (wpC_region (wpR_v (OpV_move rfl) rfl (wpR_v (OpV_bin rfl rfl (b_imul _ 32 a0)) rfl ?_)))
  refine wpR_v (OpV_conv rfl (cv_i_8 Tryd.underlying3 Tryd.underlying5 (wI (32 * a0)))) rfl ?_
  refine wpR_v (OpV_move rfl) rfl (wpR_v (OpV_conv rfl (cv_64_8 Tryd.underlying40 Tryd.underlying5 a1)) rfl ?_)
  refine wpR_v (OpV_bin rfl rfl (b_add8 _ (UInt8.ofInt (wI (32 * a0))) a1.toUInt8)) rfl ?_
  refine wpR_x (OpX_lit (e := e8) (l := [(UInt8.ofInt (wI (32 * a0))) + a1.toUInt8]) (vs := [v8 ((UInt8.ofInt (wI (32 * a0))) + a1.toUInt8)]) Tryd.underlying22 ti5 rfl rfl rfl rfl (by decide) (by decide) hS) rfl ?_
  rintro v_2 w hS
  refine wpR_v (OpV_str Tryd.underlying22 Tryd.underlying5 Tryd.underlying9 rfl (hS.ro 0 rfl)) rfl ?_
  refine wpR_v (OpV_assign rfl) rfl (wpR_nil (QE_then_n (wpC_ret (QE_then_r ?_))))
  cases h
  exact QE_ret1 rfl rfl ⟨rfl, hS.pick [] (by decide) rfl⟩
 ·have h := if_f h hb_27
  refine wpC_skip (QE_then_n (wpC_seq (wpC_region (wpR_v (OpV_assign rfl) rfl (wpR_nil (QE_then_n ?_))))))
  refine wpC_seq (wpC_seq (wpC_region (wpR_v (OpV_assign rfl) rfl (wpR_nil (QE_then_n (wpC_block ?_))))))
  refine wpC_le [(0, vI a0), (1, v64 a1), (5, vI x_1), (6, vI 24), (7, vI 1)] ⟨rfl, rfl, rfl, rfl, rfl, trivial⟩ ?_
  refine loop_ind (F.ref30_Head_L1 a0 x_1 a1) (fun (s : Int × Int) L w => L = [(0, vI a0), (1, v64 a1), (5, vI x_1), (6, vI s.1), (7, vI s.2)] ∧ St [] w0 w []) ?_ (24, 1) ⟨rfl, hS⟩ h
  rintro k_26 ⟨x_4, x_5⟩ L w q_8 hI ih_7 h hk_6
  try dsimp only at hI
  obtain ⟨rfl, hS⟩ := hI
  unfold F.ref30_Head_L1 at h
  refine wpC_seq (wpC_seq (wpC_region (wpR_v (OpV_move rfl) rfl (wpR_v (OpV_move rfl) rfl (wpR_v (OpV_bin rfl rfl (b_ilss _ x_5 x_1)) rfl ?_)))))
  refine wpR_nil (QE_then_n ?_)
  refine wpC_cond rfl (fun hb_25 => ?_) (fun hb_25 => ?_)
  ·have h := if_t h hb_25
   refine wpC_skip (QE_then_n (wpC_seq (wpC_block ?_)))
   refine wpC_region (wpR_v (OpV_move rfl) rfl (wpR_v (OpV_bin rfl rfl (b_iadd _ x_4 1)) rfl ?_))
   refine wpR_v (OpV_assign rfl) rfl (wpR_nil (QE_blk_n ?_))
   refine QE_then_n (wpC_region (wpR_v (OpV_move rfl) rfl (wpR_v (OpV_bin rfl rfl (b_imul _ 2 x_5)) rfl ?_)))
   refine wpR_v (OpV_assign rfl) rfl (wpR_nil ?_)
   exact QE_rnd (wpN_le _ (by exact ⟨rfl, rfl, rfl, rfl, rfl, trivial⟩) (ih_7 (wI (x_4 + 1), wI (2 * x_5)) _ _ ⟨rfl, hS⟩ (oinl_some h hk_6)))
  ·have h := if_f h hb_25
   refine wpC_exit ?_
   refine QE_then_x (QE_then_x ?_)
   have h := oinr_some h hk_6
   refine QE_blk_x ?_
   refine QE_then_n (wpC_seq (wpC_region (wpR_v (OpV_move rfl) rfl (wpR_v (OpV_bin rfl rfl (b_imul _ 32 a0)) rfl ?_))))
   refine wpR_v (OpV_move rfl) rfl (wpR_v (OpV_bin rfl rfl (b_iadd _ (wI (32 * a0)) x_4)) rfl ?_)
   refine wpR_v (OpV_conv rfl (cv_i_8 Tryd.underlying3 Tryd.underlying5 (wI ((wI (32 * a0)) + x_4)))) rfl ?_
   refine wpR_x (OpX_lit (e := e8) (l := [UInt8.ofInt (wI ((wI (32 * a0)) + x_4))]) (vs := [v8 (UInt8.ofInt (wI ((wI (32 * a0)) + x_4)))]) Tryd.underlying22 ti5 rfl rfl rfl rfl (by decide) (by decide) hS) rfl ?_
   rintro v_9 w hS
   refine wpR_v (OpV_assign rfl) rfl (wpR_nil (QE_then_n (wpC_seq (wpC_seq (wpC_region (wpR_v (OpV_move rfl) rfl ?_))))))
   refine wpR_v (OpV_bin rfl rfl (b_isub _ x_1 1)) rfl ?_
   refine wpR_v (OpV_assign rfl) rfl (wpR_nil (QE_then_n (wpC_block ?_)))
   refine wpC_le [(1, v64 a1), (8, v_9), (9, vI (wI (x_1 - 1)))] ⟨rfl, rfl, rfl, trivial⟩ ?_
   refine loop_ind (F.ref30_Head_L2 a1) (fun (s : List UInt8 × Int) L w => ∃ (v_12 : Value), L = [(1, v64 a1), (8, v_12), (9, vI s.2)] ∧ St [] w0 w [own e8 v_12 s.1]) ?_ ([UInt8.ofInt (wI ((wI (32 * a0)) + x_4))], wI (x_1 - 1)) ⟨v_9, rfl, hS⟩ h
   rintro k_24 ⟨x_11, x_14⟩ L w q_17 hI ih_16 h hk_15
   try dsimp only at hI
   obtain ⟨v_12, rfl, hS⟩ := hI
   unfold F.ref30_Head_L2 at h
   refine wpC_seq (wpC_seq (wpC_region (wpR_v (OpV_move rfl) rfl (wpR_v (OpV_bin rfl rfl (b_igeq _ x_14 0)) rfl ?_))))
   refine wpR_nil (QE_then_n ?_)
   refine wpC_cond rfl (fun hb_23 => ?_) (fun hb_23 => ?_)
   ·have h := if_t h hb_23
    refine wpC_skip (QE_then_n (wpC_seq (wpC_block ?_)))
    refine wpC_region (wpR_v (OpV_move rfl) rfl (wpR_v (OpV_move rfl) rfl (wpR_v (OpV_move rfl) rfl (wpR_v (OpV_bin rfl rfl (b_imul _ 8 x_14)) rfl ?_))))
    refine wpR_v (OpV_conv rfl (cv_i_64 Tryd.underlying3 Tryd.underlying79 (wI (8 * x_14)))) rfl ?_
    refine wpR_v (OpV_bin rfl rfl (b_shr64_64 _ a1 (UInt64.ofInt (wI (8 * x_14))))) rfl ?_
    refine wpR_v (OpV_bin rfl rfl (b_and64 _ (shr64 a1 ((UInt64.ofInt (wI (8 * x_14))).toNat)) 255)) rfl ?_
    refine wpR_v (OpV_conv rfl (cv_64_8 Tryd.underlying40 Tryd.underlying5 ((shr64 a1 ((UInt64.ofInt (wI (8 * x_14))).toNat)) &&& 255))) rfl ?_
    refine wpR_x (OpX_lit (e := e8) (l := [((shr64 a1 ((UInt64.ofInt (wI (8 * x_14))).toNat)) &&& 255).toUInt8]) (vs := [v8 (((shr64 a1 ((UInt64.ofInt (wI (8 * x_14))).toNat)) &&& 255).toUInt8)]) Tryd.underlying22 ti5 rfl rfl rfl rfl (by decide) (by decide) hS) rfl ?_
    rintro v_18 w hS
    obtain ⟨x_20, hx_20, h⟩ := obind_some h
    refine wpR_x (G_append Tryd.underlying22 ti5 rfl rfl rfl hS (i := 1) rfl (hS.ro 0 rfl) hx_20) rfl ?_
    rintro v_21 w hS
    refine wpR_v (OpV_assign rfl) rfl (wpR_nil (QE_blk_n ?_))
    refine QE_then_n (wpC_region (wpR_v (OpV_move rfl) rfl (wpR_v (OpV_bin rfl rfl (b_isub _ x_14 1)) rfl ?_)))
    refine wpR_v (OpV_assign rfl) rfl (wpR_nil ?_)
    exact QE_rnd (wpN_le _ (by exact ⟨rfl, rfl, rfl, trivial⟩) (ih_16 (x_20, wI (x_14 - 1)) _ _ ⟨v_21, rfl, (hS.pick [1] (by decide) rfl)⟩ (oinl_some h hk_15)))
   ·have h := if_f h hb_23
    refine wpC_exit ?_
    refine QE_then_x (QE_then_x ?_)
    have h := oinr_some h hk_15
    refine QE_blk_x ?_
    refine QE_then_n (wpC_seq (wpC_region (wpR_v (OpV_move rfl) rfl (wpR_v (OpV_str Tryd.underlying22 Tryd.underlying5 Tryd.underlying9 rfl (hS.ro 0 rfl)) rfl ?_))))
    refine wpR_v (OpV_assign rfl) rfl (wpR_nil (QE_then_n (wpC_ret ?_)))
    cases h
    exact QE_ret1 rfl rfl ⟨rfl, hS.pick [] (by decide) rfl⟩
end Go.Proofs
