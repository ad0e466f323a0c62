import Derived.Test.YtgjpaedgcpjigaaDoorYW0
import Derived.Test.YtgjpaedgcpjigaaDoorGkFref2
set_option linter.unusedVariables false
set_option linter.unusedSimpArgs false
set_option linter.unusedVariables false
set_option maxRecDepth 4000
namespace Go.Proofs
open Go Go.RowKit Go.Gk
theorem c_ref2_digit (w0 : World) (a0 : List UInt8) (a1 : Int)   (r : Bool)
  (h : F.ref2_digit a0 a1 = some r) : Calls Tryd.prog 92 #[vS a0, vI a1] w0 (Ret fun v w => v = vB r ∧ St [] w0 w []) := by
 refine calls_at 21 Tryd.func92 rfl rfl rfl ?_
 have hS := St.start w0
 refine wpC_le [(0, vS a0), (1, vI a1)] ⟨rfl, rfl, trivial⟩ ?_
 unfold F.ref2_digit at h
 refine wpC_seq (wpC_region (wpR_v (OpV_assign rfl) rfl (wpR_nil (QE_then_n (wpC_seq (wpC_region ?_))))))
 refine wpR_v (OpV_move rfl) rfl (wpR_v (OpV_move rfl) rfl (wpR_v (OpV_lenS Tryd.underlying9 rfl) rfl ?_))
 refine wpR_v (OpV_bin rfl rfl (b_ilss _ a1 (a0.length : Int))) rfl ?_
 refine wpR_v (OpV_move rfl) rfl ?_
 cases hb_1 : (decide (a1 < (a0.length : Int)))
 case true =>
  have h := if_t h hb_1
  try simp only [hb_1]
  refine wpR_gv (t := 9) rfl rfl (OpV_move rfl) rfl ?_
  refine wpR_gv (t := 9) rfl rfl (OpV_move rfl) rfl ?_
  obtain ⟨x_2, hx_2, h⟩ := obind_some h
  refine wpR_gv (t := 9) rfl rfl (G_ixS Tryd.underlying9 rfl rfl hx_2) rfl ?_
  refine wpR_gv (t := 9) rfl rfl (OpV_bin rfl rfl (b_geq8 _ x_2 48)) rfl ?_
  refine wpR_v (OpV_pickT rfl rfl) rfl (wpR_v (OpV_move rfl) rfl ?_)
  cases hb_3 : (decide ((48 : UInt8) ≤ x_2))
  case true =>
   have h := if_t h hb_3
   try simp only [hb_3]
   refine wpR_gv (t := 15) rfl rfl (OpV_move rfl) rfl ?_
   refine wpR_gv (t := 15) rfl rfl (OpV_move rfl) rfl ?_
   obtain ⟨x_4, hx_4, h⟩ := obind_some h
   refine wpR_gv (t := 15) rfl rfl (G_ixS Tryd.underlying9 rfl rfl hx_4) rfl ?_
   refine wpR_gv (t := 15) rfl rfl (OpV_bin rfl rfl (b_leq8 _ x_4 57)) rfl ?_
   refine wpR_v (OpV_pickT rfl rfl) rfl (wpR_v (OpV_assign rfl) rfl (wpR_nil (QE_then_n (wpC_ret ?_))))
   cases h
   exact QE_ret1 rfl rfl ⟨rfl, hS⟩
  case false =>
   have h := if_f h hb_3
   try simp only [hb_3]
   refine wpR_gskip (b := false) (t := 15) rfl rfl rfl rfl ?_
   refine wpR_gskip (b := false) (t := 15) rfl rfl rfl rfl ?_
   refine wpR_gskip (b := false) (t := 15) rfl rfl rfl rfl ?_
   refine wpR_gskip (b := false) (t := 15) rfl rfl rfl rfl ?_
   refine wpR_v (OpV_pickF rfl rfl) rfl (wpR_v (OpV_assign rfl) rfl (wpR_nil (QE_then_n (wpC_ret ?_))))
   cases h
   exact QE_ret1 rfl rfl ⟨rfl, hS⟩
 case false =>
  have h := if_f h hb_1
  try simp only [hb_1]
  refine wpR_gskip (b := false) (t := 9) rfl rfl rfl rfl ?_
  refine wpR_gskip (b := false) (t := 9) rfl rfl rfl rfl ?_
  refine wpR_gskip (b := false) (t := 9) rfl rfl rfl rfl ?_
  refine wpR_gskip (b := false) (t := 9) rfl rfl rfl rfl ?_
  refine wpR_v (OpV_pickF rfl rfl) rfl (wpR_v (OpV_move rfl) rfl (wpR_gskip (b := false) (t := 15) rfl rfl rfl rfl ?_))
  refine wpR_gskip (b := false) (t := 15) rfl rfl rfl rfl ?_
  refine wpR_gskip (b := false) (t := 15) rfl rfl rfl rfl ?_
  refine wpR_gskip (b := false) (t := 15) rfl rfl rfl rfl ?_
  refine wpR_v (OpV_pickF rfl rfl) rfl (wpR_v (OpV_assign rfl) rfl (wpR_nil (QE_then_n (wpC_ret ?_))))
  cases h
  exact QE_ret1 rfl rfl ⟨rfl, hS⟩
theorem c_ref2_many (w0 : World) (a0 : List UInt8) (a1 : Int)   (r : Int)
  (h : F.ref2_many a0 a1 = some r) : Calls Tryd.prog 91 #[vS a0, vI a1] w0 (Ret fun v w => v = vI r ∧ St [] w0 w []) := by
 refine calls_at 11 Tryd.func91 rfl rfl rfl ?_
 have hS := St.start w0
 refine wpC_le [(0, vS a0), (1, vI a1)] ⟨rfl, rfl, trivial⟩ ?_
 unfold F.ref2_many at h
 refine wpC_seq (wpC_region (wpR_v (OpV_assign rfl) rfl (wpR_nil (QE_then_n (wpC_seq (wpC_block ?_))))))
 refine wpC_le [(0, vS a0), (1, vI a1)] ⟨rfl, rfl, trivial⟩ ?_
 refine loop_ind (F.ref2_many_L1 a0) (fun (s : Int) L w => L = [(0, vS a0), (1, vI s)] ∧ St [] w0 w []) ?_ a1 ⟨rfl, hS⟩ h
 rintro k_7 x_1 L w q_4 hI ih_3 h hk_2
 try dsimp only at hI
 obtain ⟨rfl, hS⟩ := hI
 unfold F.ref2_many_L1 at h
 refine wpC_seq (wpC_seq (wpC_region (wpR_v (OpV_move rfl) rfl (wpR_v (OpV_move rfl) rfl ?_))))
 obtain ⟨x_5, hx_5, h⟩ := obind_some h
 refine wpR_call (by kernel_rfl) rfl (c_ref2_digit _ a0 x_1    _ hx_5) rfl ?_
 rintro _ w ⟨rfl, hS1⟩
 have hS := hS.call hS1
 simp only [List.cons_append, List.nil_append] at hS
 refine wpR_nil (QE_then_n ?_)
 refine wpC_cond rfl (fun hb_6 => ?_) (fun hb_6 => ?_)
 ·have h := if_t h hb_6
  refine wpC_skip (QE_then_n (wpC_block ?_))
  refine wpC_region (wpR_v (OpV_move rfl) rfl (wpR_v (OpV_bin rfl rfl (b_iadd _ x_1 1)) rfl ?_))
  refine wpR_v (OpV_assign rfl) rfl (wpR_nil (QE_blk_n ?_))
  exact QE_rnd (wpN_le _ (by exact ⟨rfl, rfl, trivial⟩) (ih_3 (wI (x_1 + 1)) _ _ ⟨rfl, hS⟩ (oinl_some h hk_2)))
 ·have h := if_f h hb_6
  refine wpC_exit ?_
  refine QE_then_x (QE_then_x ?_)
  have h := oinr_some h hk_2
  refine QE_blk_x ?_
  refine QE_then_n (wpC_seq (wpC_region (wpR_v (OpV_move rfl) rfl (wpR_v (OpV_assign rfl) rfl (wpR_nil (QE_then_n ?_))))))
  refine wpC_ret ?_
  cases h
  exact QE_ret1 rfl rfl ⟨rfl, hS⟩
theorem c_ref2_Read (w0 : World) (a0 : List UInt8)   (r : Bool × List Int × Int × Bool × List Int × Bool × List UInt8 × Bool)
  (h : F.ref2_Read a0 = some r) : Calls Tryd.prog 87 #[vS a0] w0 (Ret fun v w => ∃ u0_1 u0_4 : Value, v = .tuple #[.agg #[vB r.1, u0_1, vI r.2.2.1, vB r.2.2.2.1, u0_4, vB r.2.2.2.2.2.1, vS r.2.2.2.2.2.2.1], vB r.2.2.2.2.2.2.2] ∧ St [] w0 w [own eI u0_1 r.2.1, own eI u0_4 r.2.2.2.2.1]) := by
 refine calls_at 222 Tryd.func87 rfl rfl rfl ?_
 have hS := St.start w0
 refine wpC_le [(0, vS a0)] ⟨rfl, trivial⟩ ?_
 unfold F.ref2_Read at h
 refine wpC_seq (wpC_region (wpR_x (OpX_alloc (cs := [vB false, .slice none 0 0, vI 0, vB false, .slice none 0 0, vB false, vS []]) tz146 rfl hS) rfl ?_))
 rintro _ w ⟨b_1, rfl, hS⟩
 refine wpR_v (OpV_assign rfl) rfl (wpR_nil (QE_then_n (wpC_seq (wpC_region (wpR_v (OpV_build (vs := [(5, vB true, [vB true])]) (cells := [vB false, .slice none 0 0, vI 0, vB false, .slice none 0 0, vB true, vS []]) rfl lay146 ⟨rfl, trivial⟩ rfl) rfl ?_)))))
 refine wpR_x (OpX_alloc (cs := [vB false, .slice none 0 0, vI 0, vB false, .slice none 0 0, vB false, vS []]) tz146 rfl hS) rfl ?_
 rintro _ w ⟨b_3, rfl, hS⟩
 refine wpR_y (OpY_stB (i := 0) (us := [vB false, .slice none 0 0, vI 0, vB false, .slice none 0 0, vB true, vS []]) rfl sz146 rfl rfl rfl ⟨rfl, rfl, rfl, rfl, rfl, rfl, rfl, trivial⟩ rfl hS) ?_
 intro w hS
 replace hS : St _ w0 w [OE.bx b_3 [vB false, .slice none 0 0, vI 0, vB false, .slice none 0 0, vB true, vS []], OE.bx b_1 [vB false, .slice none 0 0, vI 0, vB false, .slice none 0 0, vB false, vS []]] := hS
 refine wpR_nil (QE_then_n (wpC_seq (wpC_region (wpR_v (OpV_assign rfl) rfl (wpR_nil (QE_then_n ?_))))))
 refine seq_join (r := r) (fun (g : Int × Bool) L w => L = [(0, vS a0), (2, pB b_1 0), (4, pB b_3 0), (5, vI g.1)] ∧ St [] w0 w [OE.bx b_1 [vB false, .slice none 0 0, vI 0, vB false, .slice none 0 0, vB false, vS []], OE.bx b_3 [vB g.2, .slice none 0 0, vI 0, vB false, .slice none 0 0, vB true, vS []]]) (F.ref2_Read_K1 a0) ?_ ?_
 ·rintro ⟨x_10, x_11⟩ L w hJ h
  try dsimp only at hJ
  obtain ⟨rfl, hS⟩ := hJ
  unfold F.ref2_Read_K1 at h
  refine wpC_seq (wpC_region (wpR_v (OpV_move rfl) rfl (wpR_v (OpV_assign rfl) rfl (wpR_nil (QE_then_n (wpC_seq ?_))))))
  refine wpC_region (wpR_v (OpV_move rfl) rfl (wpR_v (OpV_move rfl) rfl ?_))
  obtain ⟨x_13, hx_13, h⟩ := obind_some h
  refine wpR_call (by kernel_rfl) rfl (c_ref2_many _ a0 x_10    _ hx_13) rfl ?_
  rintro _ w ⟨rfl, hS1⟩
  have hS := hS.call hS1
  simp only [List.cons_append, List.nil_append] at hS
  refine wpR_v (OpV_assign rfl) rfl (wpR_nil (QE_then_n (wpC_seq ?_)))
  refine seq_join (r := r) (fun (g : Bool) L w => L = [(0, vS a0), (2, pB b_1 0), (4, pB b_3 0), (5, vI x_13), (6, vI x_10), (45, vB g)] ∧ St [] w0 w [OE.bx b_1 [vB false, .slice none 0 0, vI 0, vB false, .slice none 0 0, vB false, vS []], OE.bx b_3 [vB x_11, .slice none 0 0, vI 0, vB false, .slice none 0 0, vB true, vS []]]) (F.ref2_Read_K2 a0 x_10 x_11 x_13) ?_ ?_
  ·rintro x_17 L w hJ h
   try dsimp only at hJ
   obtain ⟨rfl, hS⟩ := hJ
   unfold F.ref2_Read_K2 at h
   refine wpC_cond rfl (fun hb_125 => ?_) (fun hb_125 => ?_)
   ·have h := if_t h hb_125
    refine wpC_seq (wpC_region (wpR_v (OpV_ldBs (us := [vB x_11, .slice none 0 0, vI 0, vB false, .slice none 0 0, vB true, vS []]) Tryd.underlying146 rfl sz146 rfl (hS.bxs 1 rfl rfl)) rfl ?_))
    refine wpR_y (OpY_stB (i := 0) (us := [vB x_11, .slice none 0 0, vI 0, vB false, .slice none 0 0, vB true, vS []]) rfl sz146 rfl rfl rfl ⟨rfl, rfl, rfl, rfl, rfl, rfl, rfl, trivial⟩ rfl hS) ?_
    intro w hS
    replace hS : St _ w0 w [OE.bx b_1 [vB x_11, .slice none 0 0, vI 0, vB false, .slice none 0 0, vB true, vS []], OE.bx b_3 [vB x_11, .slice none 0 0, vI 0, vB false, .slice none 0 0, vB true, vS []]] := hS
    refine wpR_v (OpV_assign rfl) rfl (wpR_nil (QE_then_n (wpC_ret (QE_then_r ?_))))
    cases h
    exact QE_rv2 rfl ⟨_, rfl, run_ldAgg (us := [vB x_11, .slice none 0 0, vI 0, vB false, .slice none 0 0, vB true, vS []]) Tryd.underlying146 rfl sz146 (hS.bxs 0 rfl rfl)⟩ rfl ⟨.slice none 0 0, .slice none 0 0, rfl, ((hS.nil eI).nil eI).pick [1, 0] (by decide) rfl⟩
   ·have h := if_f h hb_125
    refine wpC_skip (QE_then_n (wpC_seq (wpC_region (wpR_v (OpV_move rfl) rfl (wpR_v (OpV_move rfl) rfl (wpR_v (OpV_move rfl) rfl ?_))))))
    obtain ⟨x_19, hx_19, h⟩ := obind_some h
    refine wpR_v (G_slS Tryd.underlying9 rfl rfl rfl hx_19) rfl ?_
    refine wpR_v (OpV_fieldB (k := 6) Tryd.underlying146 rfl rfl nz9 rfl) rfl ?_
    refine wpR_y (OpY_stB (i := 1) (us := [vS x_19]) rfl sz9 rfl rfl rfl ⟨rfl, trivial⟩ rfl hS) ?_
    intro w hS
    replace hS : St _ w0 w [OE.bx b_1 [vB false, .slice none 0 0, vI 0, vB false, .slice none 0 0, vB false, vS []], OE.bx b_3 [vB x_11, .slice none 0 0, vI 0, vB false, .slice none 0 0, vB true, vS x_19]] := hS
    refine wpR_nil (QE_then_n (wpC_seq (wpC_region (wpR_v (OpV_move rfl) rfl (wpR_v (OpV_move rfl) rfl (wpR_v (OpV_move rfl) rfl ?_))))))
    obtain ⟨x_20, hx_20, h⟩ := obind_some h
    refine wpR_v (G_slS Tryd.underlying9 rfl rfl rfl hx_20) rfl ?_
    refine wpR_v (OpV_assign rfl) rfl (wpR_nil (QE_then_n (wpC_seq (wpC_region (wpR_v (OpV_move rfl) rfl (wpR_v (OpV_move rfl) rfl ?_))))))
    refine wpR_v (OpV_bin rfl rfl (b_isub _ x_13 x_10)) rfl ?_
    refine wpR_v (OpV_fieldB (k := 2) Tryd.underlying146 rfl rfl nz3 rfl) rfl ?_
    refine wpR_y (OpY_stB (i := 1) (us := [vI (wI (x_13 - x_10))]) rfl sz3 rfl rfl rfl ⟨rfl, trivial⟩ rfl hS) ?_
    intro w hS
    replace hS : St _ w0 w [OE.bx b_1 [vB false, .slice none 0 0, vI 0, vB false, .slice none 0 0, vB false, vS []], OE.bx b_3 [vB x_11, .slice none 0 0, vI (wI (x_13 - x_10)), vB false, .slice none 0 0, vB true, vS x_19]] := hS
    refine wpR_nil (QE_then_n ?_)
    refine seq_join (r := r) (fun (g : Int × List UInt8 × Bool) L w => L = [(0, vS a0), (2, pB b_1 0), (4, pB b_3 0), (5, vI g.1), (7, vS g.2.1)] ∧ St [] w0 w [OE.bx b_1 [vB false, .slice none 0 0, vI 0, vB false, .slice none 0 0, vB false, vS []], OE.bx b_3 [vB x_11, .slice none 0 0, vI (wI (x_13 - x_10)), vB false, .slice none 0 0, vB g.2.2, vS x_19]]) (F.ref2_Read_K3 a0 x_10 x_11 x_13 x_19) ?_ ?_
    ·rintro ⟨x_30, x_31, x_32⟩ L w hJ h
     try dsimp only at hJ
     obtain ⟨rfl, hS⟩ := hJ
     unfold F.ref2_Read_K3 at h
     refine seq_join (r := r) (fun (g : Int × Bool × List Int × Bool) L w => ∃ (v_81 : Value), L = [(0, vS a0), (2, pB b_1 0), (4, pB b_3 0), (5, vI g.1), (7, vS x_31)] ∧ St [] w0 w [OE.bx b_1 [vB false, .slice none 0 0, vI 0, vB false, .slice none 0 0, vB false, vS []], own eI v_81 g.2.2.1, OE.bx b_3 [vB x_11, .slice none 0 0, vI (wI (x_13 - x_10)), vB g.2.1, v_81, vB g.2.2.2, vS x_19]]) (F.ref2_Read_K4 a0 x_10 x_11 x_13 x_19 x_31) ?_ ?_
     ·rintro ⟨x_78, x_79, x_80, x_83⟩ L w hJ h
      try dsimp only at hJ
      obtain ⟨v_81, rfl, hS⟩ := hJ
      unfold F.ref2_Read_K4 at h
      refine wpC_seq (wpC_seq (wpC_region (wpR_v (OpV_move rfl) rfl (wpR_v (OpV_move rfl) rfl (wpR_v (OpV_lenS Tryd.underlying9 rfl) rfl ?_)))))
      refine wpR_v (OpV_bin rfl rfl (b_ineq _ x_78 (a0.length : Int))) rfl ?_
      refine wpR_nil (QE_then_n ?_)
      refine wpC_cond rfl (fun hb_124 => ?_) (fun hb_124 => ?_)
      ·have h := if_t h hb_124
       refine wpC_seq (wpC_region (wpR_v (OpV_ldBs (us := [vB x_11, .slice none 0 0, vI (wI (x_13 - x_10)), vB x_79, v_81, vB x_83, vS x_19]) Tryd.underlying146 rfl sz146 rfl (hS.bxs 2 rfl rfl)) rfl ?_))
       refine wpR_y (OpY_stB (i := 0) (us := [vB x_11, .slice none 0 0, vI (wI (x_13 - x_10)), vB x_79, v_81, vB x_83, vS x_19]) rfl sz146 rfl rfl rfl ⟨rfl, rfl, rfl, rfl, (hS.ro 1 rfl).one, rfl, rfl, trivial⟩ rfl hS) ?_
       intro w hS
       replace hS : St _ w0 w [OE.bx b_1 [vB x_11, .slice none 0 0, vI (wI (x_13 - x_10)), vB x_79, v_81, vB x_83, vS x_19], own eI v_81 x_80, OE.bx b_3 [vB x_11, .slice none 0 0, vI (wI (x_13 - x_10)), vB x_79, v_81, vB x_83, vS x_19]] := hS
       refine wpR_v (OpV_assign rfl) rfl (wpR_nil (QE_then_n (wpC_ret (QE_then_r ?_))))
       cases h
       exact QE_rv2 rfl ⟨_, rfl, run_ldAgg (us := [vB x_11, .slice none 0 0, vI (wI (x_13 - x_10)), vB x_79, v_81, vB x_83, vS x_19]) Tryd.underlying146 rfl sz146 (hS.bxs 0 rfl rfl)⟩ rfl ⟨.slice none 0 0, v_81, rfl, (hS.nil eI).pick [0, 2] (by decide) rfl⟩
      ·have h := if_f h hb_124
       refine wpC_skip (QE_then_n (wpC_seq (wpC_seq (wpC_region (wpR_v (OpV_assign rfl) rfl (wpR_nil ?_))))))
       refine QE_then_n (wpC_block ?_)
       refine wpC_le [(2, pB b_1 0), (4, pB b_3 0), (7, vS x_31), (11, vI 0)] ⟨rfl, rfl, rfl, rfl, trivial⟩ ?_
       refine loop_ind (F.ref2_Read_L1 x_31 x_11 x_19 x_79 x_80 x_83) (fun (s : Int × List Int × Int) L w => ∃ (v_87 : Value), L = [(2, pB b_1 0), (4, pB b_3 0), (7, vS x_31), (11, vI s.1)] ∧ St [] w0 w [OE.bx b_1 [vB false, .slice none 0 0, vI 0, vB false, .slice none 0 0, vB false, vS []], own eI v_87 s.2.1, OE.bx b_3 [vB x_11, v_87, vI s.2.2, vB x_79, v_81, vB x_83, vS x_19], own eI v_81 x_80]) ?_ (0, [], wI (x_13 - x_10)) ⟨.slice none 0 0, rfl, ((hS.nil eI).pick [1, 0, 3, 2] (by decide) rfl)⟩ h
       rintro k_123 ⟨x_85, x_86, x_89⟩ L w q_92 hI ih_91 h hk_90
       try dsimp only at hI
       obtain ⟨v_87, rfl, hS⟩ := hI
       unfold F.ref2_Read_L1 at h
       refine wpC_seq (wpC_seq (wpC_region (wpR_v (OpV_move rfl) rfl (wpR_v (OpV_move rfl) rfl (wpR_v (OpV_lenS Tryd.underlying9 rfl) rfl ?_)))))
       refine wpR_v (OpV_bin rfl rfl (b_ilss _ x_85 (x_31.length : Int))) rfl ?_
       refine wpR_nil (QE_then_n ?_)
       refine wpC_cond rfl (fun hb_122 => ?_) (fun hb_122 => ?_)
       ·have h := if_t h hb_122
        refine wpC_skip (QE_then_n ?_)
        refine seq_join (r := q_92) (fun (g : List Int × Int) L w => ∃ (v_105 : Value), L = [(2, pB b_1 0), (4, pB b_3 0), (7, vS x_31), (11, vI x_85)] ∧ St [] w0 w [OE.bx b_1 [vB false, .slice none 0 0, vI 0, vB false, .slice none 0 0, vB false, vS []], own eI v_105 g.1, OE.bx b_3 [vB x_11, v_105, vI g.2, vB x_79, v_81, vB x_83, vS x_19], own eI v_81 x_80]) (F.ref2_Read_K5 x_85) ?_ ?_
        ·rintro ⟨x_104, x_107⟩ L w hJ h
         try dsimp only at hJ
         obtain ⟨v_105, rfl, hS⟩ := hJ
         unfold F.ref2_Read_K5 at h
         refine wpC_region (wpR_v (OpV_move rfl) rfl (wpR_v (OpV_bin rfl rfl (b_iadd _ x_85 1)) rfl ?_))
         refine wpR_v (OpV_assign rfl) rfl (wpR_nil ?_)
         exact QE_rnd (wpN_le _ (by exact ⟨rfl, rfl, rfl, rfl, trivial⟩) (ih_91 (wI (x_85 + 1), x_104, x_107) _ _ ⟨v_105, rfl, hS⟩ (oinl_some h hk_90)))
        ·intro hK_108
         refine wpC_block ?_
         refine wpC_seq (wpC_region (wpR_v (OpV_move rfl) rfl (wpR_v (OpV_move rfl) rfl ?_)))
         obtain ⟨x_93, hx_93, h⟩ := obind_some h
         refine wpR_v (G_ixS Tryd.underlying9 rfl rfl hx_93) rfl ?_
         refine wpR_v (OpV_bin rfl rfl (b_sub8 _ x_93 48)) rfl ?_
         refine wpR_v (OpV_conv rfl (cv_8_i Tryd.underlying5 Tryd.underlying3 (x_93 - 48))) rfl ?_
         obtain ⟨x_94, hx_94, h⟩ := olet_some h
         refine wpR_v (OpV_assign (v := vI x_94) (by rw [← hx_94]; rfl)) rfl ?_
         refine wpR_nil (QE_then_n ?_)
         refine seq_join (r := q_92) (fun (g : Bool) L w => L = [(2, pB b_1 0), (4, pB b_3 0), (7, vS x_31), (11, vI x_85), (12, vI x_94), (187, vB g)] ∧ St [] w0 w [OE.bx b_1 [vB false, .slice none 0 0, vI 0, vB false, .slice none 0 0, vB false, vS []], OE.bx b_3 [vB x_11, v_87, vI x_89, vB x_79, v_81, vB x_83, vS x_19], own eI v_87 x_86, own eI v_81 x_80]) (F.ref2_Read_K6 x_86 x_89 x_94 x_85) ?_ ?_
         ·rintro x_96 L w hJ h
          try dsimp only at hJ
          obtain ⟨rfl, hS⟩ := hJ
          unfold F.ref2_Read_K6 at h
          refine wpC_cond rfl (fun hb_103 => ?_) (fun hb_103 => ?_)
          ·have h := if_t h hb_103
           refine wpC_region (wpR_v (OpV_fieldB (k := 1) Tryd.underlying146 rfl rfl nz60 rfl) rfl ?_)
           refine wpR_v (OpV_ldB Tryd.underlying60 rfl rfl (hS.bxc 1 rfl 1)) rfl ?_
           refine wpR_v (OpV_move rfl) rfl ?_
           refine wpR_x (OpX_lit (e := eI) (l := ([x_94] : List Int)) (vs := [vI x_94]) Tryd.underlying60 ti3 rfl rfl rfl rfl (by decide) (by decide) hS) rfl ?_
           rintro v_98 w hS
           obtain ⟨x_100, hx_100, h⟩ := obind_some h
           refine wpR_x (G_append Tryd.underlying60 ti3 rfl rfl rfl hS (i := 3) rfl (hS.ro 0 rfl) hx_100) rfl ?_
           rintro v_101 w hS
           refine wpR_v (OpV_fieldB (k := 1) Tryd.underlying146 rfl rfl nz60 rfl) rfl ?_
           refine wpR_y (OpY_stB (i := 2) (us := [v_101]) rfl sz60 rfl rfl (cells_one (hS.ro 3 rfl).one) ⟨(hS.ro 3 rfl).one, trivial⟩ rfl hS) ?_
           intro w hS
           replace hS : St _ w0 w [own eI v_98 ([x_94] : List Int), OE.bx b_1 [vB false, .slice none 0 0, vI 0, vB false, .slice none 0 0, vB false, vS []], OE.bx b_3 [vB x_11, v_101, vI x_89, vB x_79, v_81, vB x_83, vS x_19], own eI v_101 x_100, own eI v_81 x_80] := hS
           refine wpR_nil (QE_blk_n ?_)
           refine QE_then_n ?_
           exact wpC_le _ (by exact ⟨rfl, rfl, rfl, rfl, trivial⟩) (hK_108 (x_100, x_89) _ _ ⟨v_101, rfl, (hS.pick [1, 3, 2, 4] (by decide) rfl)⟩ h)
          ·have h := if_f h hb_103
           refine wpC_region (wpR_v (OpV_fieldB (k := 2) Tryd.underlying146 rfl rfl nz3 rfl) rfl ?_)
           refine wpR_v (OpV_ldB Tryd.underlying3 rfl rfl (hS.bxc 1 rfl 2)) rfl ?_
           refine wpR_v (OpV_bin rfl rfl (b_isub _ x_89 1)) rfl ?_
           refine wpR_v (OpV_fieldB (k := 2) Tryd.underlying146 rfl rfl nz3 rfl) rfl ?_
           refine wpR_y (OpY_stB (i := 1) (us := [vI (wI (x_89 - 1))]) rfl sz3 rfl rfl rfl ⟨rfl, trivial⟩ rfl hS) ?_
           intro w hS
           replace hS : St _ w0 w [OE.bx b_1 [vB false, .slice none 0 0, vI 0, vB false, .slice none 0 0, vB false, vS []], OE.bx b_3 [vB x_11, v_87, vI (wI (x_89 - 1)), vB x_79, v_81, vB x_83, vS x_19], own eI v_87 x_86, own eI v_81 x_80] := hS
           refine wpR_nil (QE_blk_n ?_)
           refine QE_then_n ?_
           exact wpC_le _ (by exact ⟨rfl, rfl, rfl, rfl, trivial⟩) (hK_108 (x_86, wI (x_89 - 1)) _ _ ⟨v_87, rfl, (hS.pick [0, 2, 1, 3] (by decide) rfl)⟩ h)
         ·intro hK_97
          refine wpC_region (wpR_v (OpV_move rfl) rfl (wpR_v (OpV_bin rfl rfl (b_ineq _ x_94 0)) rfl ?_))
          refine wpR_v (OpV_move rfl) rfl ?_
          cases hb_95 : (x_94 != 0)
          case true =>
           have h := if_t h hb_95
           try simp only [hb_95]
           refine wpR_gskip (b := true) (t := 182) rfl rfl rfl rfl ?_
           refine wpR_gskip (b := true) (t := 182) rfl rfl rfl rfl ?_
           refine wpR_gskip (b := true) (t := 182) rfl rfl rfl rfl ?_
           refine wpR_gskip (b := true) (t := 182) rfl rfl rfl rfl ?_
           refine wpR_v (OpV_pickT rfl rfl) rfl (wpR_nil (QE_then_n ?_))
           exact wpC_le _ (by exact ⟨rfl, rfl, rfl, rfl, rfl, rfl, trivial⟩) (hK_97 true _ _ ⟨rfl, (hS.pick [0, 2, 1, 3] (by decide) rfl)⟩ h)
          case false =>
           have h := if_f h hb_95
           try simp only [hb_95]
           refine wpR_gv (t := 182) rfl rfl (OpV_fieldB (k := 1) Tryd.underlying146 rfl rfl nz60 rfl) rfl ?_
           refine wpR_gv (t := 182) rfl rfl (OpV_ldB Tryd.underlying60 rfl rfl (hS.bxc 2 rfl 1)) rfl ?_
           refine wpR_gv (t := 182) rfl rfl (OpV_len Tryd.underlying60 rfl (hS.ro 1 rfl)) rfl ?_
           refine wpR_gv (t := 182) rfl rfl (OpV_bin rfl rfl (b_igtr _ (x_86.length : Int) 0)) rfl ?_
           refine wpR_v (OpV_pickF rfl rfl) rfl (wpR_nil (QE_then_n ?_))
           exact wpC_le _ (by exact ⟨rfl, rfl, rfl, rfl, rfl, rfl, trivial⟩) (hK_97 (decide ((0 : Int) < (x_86.length : Int))) _ _ ⟨rfl, (hS.pick [0, 2, 1, 3] (by decide) rfl)⟩ h)
       ·have h := if_f h hb_122
        refine wpC_exit ?_
        refine QE_then_x (QE_then_x ?_)
        have h := oinr_some h hk_90
        refine QE_blk_x ?_
        refine QE_then_n (wpC_seq (wpC_block ?_))
        refine wpC_le [(2, pB b_1 0), (4, pB b_3 0)] ⟨rfl, rfl, trivial⟩ ?_
        refine loop_ind (F.ref2_Read_L2 x_11 x_19 x_79 x_80 x_83 x_89) (fun (s : List Int) L w => ∃ (v_110 : Value), L = [(2, pB b_1 0), (4, pB b_3 0)] ∧ St [] w0 w [OE.bx b_1 [vB false, .slice none 0 0, vI 0, vB false, .slice none 0 0, vB false, vS []], own eI v_110 s, OE.bx b_3 [vB x_11, v_110, vI x_89, vB x_79, v_81, vB x_83, vS x_19], own eI v_81 x_80]) ?_ x_86 ⟨v_87, rfl, hS⟩ h
        rintro k_121 x_109 L w q_114 hI ih_113 h hk_112
        try dsimp only at hI
        obtain ⟨v_110, rfl, hS⟩ := hI
        unfold F.ref2_Read_L2 at h
        refine wpC_seq ?_
        refine seq_join (r := q_114) (fun (g : Bool) L w => L = [(2, pB b_1 0), (4, pB b_3 0), (212, vB g)] ∧ St [] w0 w [OE.bx b_1 [vB false, .slice none 0 0, vI 0, vB false, .slice none 0 0, vB false, vS []], OE.bx b_3 [vB x_11, v_110, vI x_89, vB x_79, v_81, vB x_83, vS x_19], own eI v_110 x_109, own eI v_81 x_80]) (F.ref2_Read_K7 x_11 x_19 x_79 x_80 x_83 x_89 x_109) ?_ ?_
        ·rintro x_117 L w hJ h
         try dsimp only at hJ
         obtain ⟨rfl, hS⟩ := hJ
         unfold F.ref2_Read_K7 at h
         refine wpC_cond rfl (fun hb_120 => ?_) (fun hb_120 => ?_)
         ·have h := if_t h hb_120
          refine wpC_skip (QE_then_n (wpC_block ?_))
          refine wpC_region (wpR_v (OpV_fieldB (k := 1) Tryd.underlying146 rfl rfl nz60 rfl) rfl ?_)
          refine wpR_v (OpV_ldB Tryd.underlying60 rfl rfl (hS.bxc 1 rfl 1)) rfl ?_
          refine wpR_v (OpV_fieldB (k := 1) Tryd.underlying146 rfl rfl nz60 rfl) rfl ?_
          refine wpR_v (OpV_ldB Tryd.underlying60 rfl rfl (hS.bxc 1 rfl 1)) rfl ?_
          refine wpR_v (OpV_len Tryd.underlying60 rfl (hS.ro 2 rfl)) rfl ?_
          refine wpR_v (OpV_bin rfl rfl (b_isub _ (x_109.length : Int) 1)) rfl ?_
          obtain ⟨hg_119, h⟩ := grd_some h
          refine wpR_v (G_slh Tryd.underlying60 ti3 rfl rfl (hS.ro 2 rfl) (tkO_of hg_119)) rfl ?_
          refine wpR_v (OpV_fieldB (k := 1) Tryd.underlying146 rfl rfl nz60 rfl) rfl ?_
          refine wpR_y (OpY_stB (i := 1) (us := [slV v_110 eI.sz 0 ((wI ((x_109.length : Int) - 1) : Int).toNat)]) rfl sz60 rfl rfl (cells_one ((hS.ro 2 rfl).tk hg_119.2).one) ⟨((hS.ro 2 rfl).tk hg_119.2).one, trivial⟩ rfl hS) ?_
          intro w hS
          replace hS : St _ w0 w [OE.bx b_1 [vB false, .slice none 0 0, vI 0, vB false, .slice none 0 0, vB false, vS []], OE.bx b_3 [vB x_11, slV v_110 eI.sz 0 ((wI ((x_109.length : Int) - 1) : Int).toNat), vI x_89, vB x_79, v_81, vB x_83, vS x_19], own eI v_110 x_109, own eI v_81 x_80] := hS
          refine wpR_nil (QE_blk_n ?_)
          exact QE_rnd (wpN_le _ (by exact ⟨rfl, rfl, trivial⟩) (ih_113 (x_109.take ((wI ((x_109.length : Int) - 1) : Int).toNat)) _ _ ⟨slV v_110 eI.sz 0 ((wI ((x_109.length : Int) - 1) : Int).toNat), rfl, ((hS.trunc (i := 2) rfl hg_119.2).pick [0, 2, 1, 3] (by decide) rfl)⟩ (oinl_some h hk_112)))
         ·have h := if_f h hb_120
          refine wpC_exit ?_
          refine QE_then_x (QE_then_x ?_)
          have h := oinr_some h hk_112
          refine QE_blk_x ?_
          refine QE_then_n (wpC_seq (wpC_region (wpR_v (OpV_ldBs (us := [vB x_11, v_110, vI x_89, vB x_79, v_81, vB x_83, vS x_19]) Tryd.underlying146 rfl sz146 rfl (hS.bxs 1 rfl rfl)) rfl ?_)))
          refine wpR_y (OpY_stB (i := 0) (us := [vB x_11, v_110, vI x_89, vB x_79, v_81, vB x_83, vS x_19]) rfl sz146 rfl rfl rfl ⟨rfl, (hS.ro 2 rfl).one, rfl, rfl, (hS.ro 3 rfl).one, rfl, rfl, trivial⟩ rfl hS) ?_
          intro w hS
          replace hS : St _ w0 w [OE.bx b_1 [vB x_11, v_110, vI x_89, vB x_79, v_81, vB x_83, vS x_19], OE.bx b_3 [vB x_11, v_110, vI x_89, vB x_79, v_81, vB x_83, vS x_19], own eI v_110 x_109, own eI v_81 x_80] := hS
          refine wpR_v (OpV_assign rfl) rfl (wpR_nil (QE_then_n (wpC_ret ?_)))
          cases h
          exact QE_rv2 rfl ⟨_, rfl, run_ldAgg (us := [vB x_11, v_110, vI x_89, vB x_79, v_81, vB x_83, vS x_19]) Tryd.underlying146 rfl sz146 (hS.bxs 0 rfl rfl)⟩ rfl ⟨v_110, v_81, rfl, hS.pick [2, 3] (by decide) rfl⟩
        ·intro hK_118
         refine wpC_region (wpR_v (OpV_fieldB (k := 1) Tryd.underlying146 rfl rfl nz60 rfl) rfl ?_)
         refine wpR_v (OpV_ldB Tryd.underlying60 rfl rfl (hS.bxc 2 rfl 1)) rfl ?_
         refine wpR_v (OpV_len Tryd.underlying60 rfl (hS.ro 1 rfl)) rfl ?_
         refine wpR_v (OpV_bin rfl rfl (b_igtr _ (x_109.length : Int) 0)) rfl ?_
         refine wpR_v (OpV_move rfl) rfl ?_
         cases hb_115 : (decide ((0 : Int) < (x_109.length : Int)))
         case true =>
          have h := if_t h hb_115
          try simp only [hb_115]
          refine wpR_gv (t := 202) rfl rfl (OpV_fieldB (k := 1) Tryd.underlying146 rfl rfl nz60 rfl) rfl ?_
          refine wpR_gv (t := 202) rfl rfl (OpV_ldB Tryd.underlying60 rfl rfl (hS.bxc 2 rfl 1)) rfl ?_
          refine wpR_gv (t := 202) rfl rfl (OpV_fieldB (k := 1) Tryd.underlying146 rfl rfl nz60 rfl) rfl ?_
          refine wpR_gv (t := 202) rfl rfl (OpV_ldB Tryd.underlying60 rfl rfl (hS.bxc 2 rfl 1)) rfl ?_
          refine wpR_gv (t := 202) rfl rfl (OpV_len Tryd.underlying60 rfl (hS.ro 1 rfl)) rfl ?_
          refine wpR_gv (t := 202) rfl rfl (OpV_bin rfl rfl (b_isub _ (x_109.length : Int) 1)) rfl ?_
          obtain ⟨x_116, hx_116, h⟩ := obind_some h
          refine wpR_gv (t := 202) rfl rfl (G_ix Tryd.underlying60 ti3 rfl rfl (hS.ro 1 rfl) hx_116) rfl ?_
          refine wpR_gv (t := 202) rfl rfl (G_load Tryd.underlying3 rfl rfl (hS.ro 1 rfl) hx_116 rfl) rfl ?_
          refine wpR_gv (t := 202) rfl rfl (OpV_bin rfl rfl (b_ieql _ x_116 0)) rfl ?_
          refine wpR_v (OpV_pickT rfl rfl) rfl (wpR_nil (QE_then_n ?_))
          exact wpC_le _ (by exact ⟨rfl, rfl, rfl, trivial⟩) (hK_118 (x_116 == 0) _ _ ⟨rfl, (hS.pick [0, 2, 1, 3] (by decide) rfl)⟩ h)
         case false =>
          have h := if_f h hb_115
          try simp only [hb_115]
          refine wpR_gskip (b := false) (t := 202) rfl rfl rfl rfl ?_
          refine wpR_gskip (b := false) (t := 202) rfl rfl rfl rfl ?_
          refine wpR_gskip (b := false) (t := 202) rfl rfl rfl rfl ?_
          refine wpR_gskip (b := false) (t := 202) rfl rfl rfl rfl ?_
          refine wpR_gskip (b := false) (t := 202) rfl rfl rfl rfl ?_
          refine wpR_gskip (b := false) (t := 202) rfl rfl rfl rfl ?_
          refine wpR_gskip (b := false) (t := 202) rfl rfl rfl rfl ?_
          refine wpR_gskip (b := false) (t := 202) rfl rfl rfl rfl ?_
          refine wpR_gskip (b := false) (t := 202) rfl rfl rfl rfl ?_
          refine wpR_v (OpV_pickF rfl rfl) rfl (wpR_nil (QE_then_n ?_))
          exact wpC_le _ (by exact ⟨rfl, rfl, rfl, trivial⟩) (hK_118 false _ _ ⟨rfl, (hS.pick [0, 2, 1, 3] (by decide) rfl)⟩ h)
     ·intro hK_84
      refine seq_join (r := r) (fun (g : Bool) L w => L = [(0, vS a0), (2, pB b_1 0), (4, pB b_3 0), (5, vI x_30), (7, vS x_31), (103, vB g)] ∧ St [] w0 w [OE.bx b_1 [vB false, .slice none 0 0, vI 0, vB false, .slice none 0 0, vB false, vS []], OE.bx b_3 [vB x_11, .slice none 0 0, vI (wI (x_13 - x_10)), vB false, .slice none 0 0, vB x_32, vS x_19]]) (F.ref2_Read_K8 a0 x_30 x_32 x_10 x_11 x_13 x_19 x_31) ?_ ?_
      ·rintro x_38 L w hJ h
       try dsimp only at hJ
       obtain ⟨rfl, hS⟩ := hJ
       unfold F.ref2_Read_K8 at h
       refine wpC_cond rfl (fun hb_77 => ?_) (fun hb_77 => ?_)
       ·have h := if_t h hb_77
        refine wpC_seq (wpC_region (wpR_v (OpV_fieldB (k := 5) Tryd.underlying146 rfl rfl nz4 rfl) rfl ?_))
        refine wpR_y (OpY_stB (i := 1) (us := [vB false]) rfl sz4 rfl rfl rfl ⟨rfl, trivial⟩ rfl hS) ?_
        intro w hS
        replace hS : St _ w0 w [OE.bx b_1 [vB false, .slice none 0 0, vI 0, vB false, .slice none 0 0, vB false, vS []], OE.bx b_3 [vB x_11, .slice none 0 0, vI (wI (x_13 - x_10)), vB false, .slice none 0 0, vB false, vS x_19]] := hS
        refine wpR_nil (QE_then_n (wpC_seq (wpC_region (wpR_v (OpV_move rfl) rfl (wpR_v (OpV_bin rfl rfl (b_iadd _ x_30 1)) rfl ?_)))))
        refine wpR_v (OpV_assign rfl) rfl (wpR_nil (QE_then_n ?_))
        refine seq_join (r := r) (fun (g : Int × Bool) L w => L = [(0, vS a0), (2, pB b_1 0), (4, pB b_3 0), (5, vI g.1), (7, vS x_31)] ∧ St [] w0 w [OE.bx b_1 [vB false, .slice none 0 0, vI 0, vB false, .slice none 0 0, vB false, vS []], OE.bx b_3 [vB x_11, .slice none 0 0, vI (wI (x_13 - x_10)), vB g.2, .slice none 0 0, vB false, vS x_19]]) (F.ref2_Read_K9 a0 x_10 x_11 x_13 x_19 x_31) ?_ ?_
        ·rintro ⟨x_48, x_49⟩ L w hJ h
         try dsimp only at hJ
         obtain ⟨rfl, hS⟩ := hJ
         unfold F.ref2_Read_K9 at h
         refine wpC_seq (wpC_region (wpR_v (OpV_move rfl) rfl (wpR_v (OpV_move rfl) rfl ?_)))
         obtain ⟨x_51, hx_51, h⟩ := obind_some h
         refine wpR_call (by kernel_rfl) rfl (c_ref2_many _ a0 x_48    _ hx_51) rfl ?_
         rintro _ w ⟨rfl, hS1⟩
         have hS := hS.call hS1
         simp only [List.cons_append, List.nil_append] at hS
         refine wpR_v (OpV_assign rfl) rfl (wpR_nil (QE_then_n (wpC_seq (wpC_seq (wpC_region (wpR_v (OpV_move rfl) rfl ?_))))))
         refine wpR_v (OpV_move rfl) rfl (wpR_v (OpV_bin rfl rfl (b_ieql _ x_51 x_48)) rfl ?_)
         refine wpR_nil (QE_then_n ?_)
         refine wpC_cond rfl (fun hb_76 => ?_) (fun hb_76 => ?_)
         ·have h := if_t h hb_76
          refine wpC_seq (wpC_region (wpR_v (OpV_ldBs (us := [vB x_11, .slice none 0 0, vI (wI (x_13 - x_10)), vB x_49, .slice none 0 0, vB false, vS x_19]) Tryd.underlying146 rfl sz146 rfl (hS.bxs 1 rfl rfl)) rfl ?_))
          refine wpR_y (OpY_stB (i := 0) (us := [vB x_11, .slice none 0 0, vI (wI (x_13 - x_10)), vB x_49, .slice none 0 0, vB false, vS x_19]) rfl sz146 rfl rfl rfl ⟨rfl, rfl, rfl, rfl, rfl, rfl, rfl, trivial⟩ rfl hS) ?_
          intro w hS
          replace hS : St _ w0 w [OE.bx b_1 [vB x_11, .slice none 0 0, vI (wI (x_13 - x_10)), vB x_49, .slice none 0 0, vB false, vS x_19], OE.bx b_3 [vB x_11, .slice none 0 0, vI (wI (x_13 - x_10)), vB x_49, .slice none 0 0, vB false, vS x_19]] := hS
          refine wpR_v (OpV_assign rfl) rfl (wpR_nil (QE_then_n (wpC_ret (QE_then_r (QE_then_r ?_)))))
          cases h
          exact QE_rv2 rfl ⟨_, rfl, run_ldAgg (us := [vB x_11, .slice none 0 0, vI (wI (x_13 - x_10)), vB x_49, .slice none 0 0, vB false, vS x_19]) Tryd.underlying146 rfl sz146 (hS.bxs 0 rfl rfl)⟩ rfl ⟨.slice none 0 0, .slice none 0 0, rfl, ((hS.nil eI).nil eI).pick [1, 0] (by decide) rfl⟩
         ·have h := if_f h hb_76
          refine wpC_skip (QE_then_n (wpC_seq (wpC_seq (wpC_region (wpR_v (OpV_move rfl) rfl (wpR_v (OpV_assign rfl) rfl ?_))))))
          refine wpR_nil (QE_then_n (wpC_block ?_))
          refine wpC_le [(0, vS a0), (2, pB b_1 0), (4, pB b_3 0), (7, vS x_31), (9, vI x_51), (10, vI x_48)] ⟨rfl, rfl, rfl, rfl, rfl, rfl, trivial⟩ ?_
          refine loop_ind (F.ref2_Read_L3 a0 x_49 x_51 x_10 x_11 x_13 x_19 x_31) (fun (s : Int × List Int) L w => ∃ (v_54 : Value), L = [(0, vS a0), (2, pB b_1 0), (4, pB b_3 0), (7, vS x_31), (9, vI x_51), (10, vI s.1)] ∧ St [] w0 w [OE.bx b_1 [vB false, .slice none 0 0, vI 0, vB false, .slice none 0 0, vB false, vS []], own eI v_54 s.2, OE.bx b_3 [vB x_11, .slice none 0 0, vI (wI (x_13 - x_10)), vB x_49, v_54, vB false, vS x_19]]) ?_ (x_48, []) ⟨.slice none 0 0, rfl, ((hS.nil eI).pick [1, 0, 2] (by decide) rfl)⟩ h
          rintro k_75 ⟨x_52, x_53⟩ L w q_58 hI ih_57 h hk_56
          try dsimp only at hI
          obtain ⟨v_54, rfl, hS⟩ := hI
          unfold F.ref2_Read_L3 at h
          refine wpC_seq (wpC_seq (wpC_region (wpR_v (OpV_move rfl) rfl (wpR_v (OpV_move rfl) rfl (wpR_v (OpV_bin rfl rfl (b_ilss _ x_52 x_51)) rfl ?_)))))
          refine wpR_nil (QE_then_n ?_)
          refine wpC_cond rfl (fun hb_74 => ?_) (fun hb_74 => ?_)
          ·have h := if_t h hb_74
           refine wpC_skip (QE_then_n ?_)
           refine seq_join (r := q_58) (fun (g : List Int) L w => ∃ (v_71 : Value), L = [(0, vS a0), (2, pB b_1 0), (4, pB b_3 0), (7, vS x_31), (9, vI x_51), (10, vI x_52)] ∧ St [] w0 w [OE.bx b_1 [vB false, .slice none 0 0, vI 0, vB false, .slice none 0 0, vB false, vS []], own eI v_71 g, OE.bx b_3 [vB x_11, .slice none 0 0, vI (wI (x_13 - x_10)), vB x_49, v_71, vB false, vS x_19]]) (F.ref2_Read_K10 x_52) ?_ ?_
           ·rintro x_70 L w hJ h
            try dsimp only at hJ
            obtain ⟨v_71, rfl, hS⟩ := hJ
            unfold F.ref2_Read_K10 at h
            refine wpC_region (wpR_v (OpV_move rfl) rfl (wpR_v (OpV_bin rfl rfl (b_iadd _ x_52 1)) rfl ?_))
            refine wpR_v (OpV_assign rfl) rfl (wpR_nil ?_)
            exact QE_rnd (wpN_le _ (by exact ⟨rfl, rfl, rfl, rfl, rfl, rfl, trivial⟩) (ih_57 (wI (x_52 + 1), x_70) _ _ ⟨v_71, rfl, hS⟩ (oinl_some h hk_56)))
           ·intro hK_73
            refine wpC_block ?_
            refine seq_join (r := q_58) (fun (g : Bool) L w => L = [(0, vS a0), (2, pB b_1 0), (4, pB b_3 0), (7, vS x_31), (9, vI x_51), (10, vI x_52), (152, vB g)] ∧ St [] w0 w [OE.bx b_1 [vB false, .slice none 0 0, vI 0, vB false, .slice none 0 0, vB false, vS []], OE.bx b_3 [vB x_11, .slice none 0 0, vI (wI (x_13 - x_10)), vB x_49, v_54, vB false, vS x_19], own eI v_54 x_53]) (F.ref2_Read_K11 a0 x_52 x_53) ?_ ?_
            ·rintro x_61 L w hJ h
             try dsimp only at hJ
             obtain ⟨rfl, hS⟩ := hJ
             unfold F.ref2_Read_K11 at h
             refine wpC_cond rfl (fun hb_69 => ?_) (fun hb_69 => ?_)
             ·have h := if_t h hb_69
              have hsh2 := (hS.ro 2 rfl).shp
              refine wpC_regionS (fun w' => St [] w0 w' [OE.bx b_1 [vB false, .slice none 0 0, vI 0, vB false, .slice none 0 0, vB false, vS []], OE.bx b_3 [vB x_11, .slice none 0 0, vI (wI (x_13 - x_10)), vB x_49, v_54, vB false, vS x_19]]) (fun i => !([7, 8, 10].contains i)) hmix (fun _ _ _ hf => hf.2) (fun _ _ hf => hf) (by kernel_rfl) ?_
              have hS := hS.drew
              show lxE _ _ _ _ _ _ _ [0, 1, 2, 3, 4, 5, 6, 7, 8, 9, 10] _ _
              refine lxE_v (hS.pick [0, 1] (by decide) rfl) rfl rfl (fun w hF => OpV_fieldB (k := 4) Tryd.underlying146 rfl rfl nz60 rfl) rfl ?_
              refine lxE_v (hS.pick [0, 1] (by decide) rfl) rfl rfl (fun w hF => OpV_ldB Tryd.underlying60 rfl rfl (hF.bxc 1 rfl 4)) rfl ?_
              refine lxE_v (hS.pick [0, 1] (by decide) rfl) rfl rfl (fun w hF => OpV_move rfl) rfl ?_
              refine lxE_v (hS.pick [0, 1] (by decide) rfl) rfl rfl (fun w hF => OpV_move rfl) rfl ?_
              obtain ⟨x_63, hx_63, h⟩ := obind_some h
              refine lxE_v (hS.pick [0, 1] (by decide) rfl) rfl rfl (fun w hF => G_ixS Tryd.underlying9 rfl rfl hx_63) rfl ?_
              refine lxE_v (hS.pick [0, 1] (by decide) rfl) rfl rfl (fun w hF => OpV_bin rfl rfl (b_sub8 _ x_63 48)) rfl ?_
              refine lxE_v (hS.pick [0, 1] (by decide) rfl) rfl rfl (fun w hF => OpV_conv rfl (cv_8_i Tryd.underlying5 Tryd.underlying3 (x_63 - 48))) rfl ?_
              refine lxE_x (hS.pick [0, 1] (by decide) rfl) rfl rfl (OpX_lit (e := eI) (l := ([((x_63 - 48).toNat : Int)] : List Int)) (vs := [vI ((x_63 - 48).toNat : Int)]) Tryd.underlying60 ti3 rfl rfl rfl rfl (by decide) (by decide) hS) rfl ?_
              rintro v_64 w hS
              obtain ⟨x_66, hx_66, h⟩ := obind_some h
              refine lxE_x (hS.pick [1, 2] (by decide) rfl) rfl rfl (G_append Tryd.underlying60 ti3 rfl rfl rfl hS (i := 3) rfl (hS.ro 0 rfl) hx_66) rfl ?_
              rintro v_67 w hS
              refine lxE_v (hS.pick [1, 2] (by decide) rfl) rfl rfl (fun w hF => OpV_fieldB (k := 4) Tryd.underlying146 rfl rfl nz60 rfl) rfl ?_
              refine lxE_y (hS.pick [1, 2] (by decide) rfl) rfl rfl (OpY_stB (i := 2) (us := [v_67]) rfl sz60 rfl rfl (cells_one (hS.ro 3 rfl).one) ⟨(hS.ro 3 rfl).one, trivial⟩ rfl hS) ?_
              intro w hS
              replace hS : St _ w0 w [own eI v_64 ([((x_63 - 48).toNat : Int)] : List Int), OE.bx b_1 [vB false, .slice none 0 0, vI 0, vB false, .slice none 0 0, vB false, vS []], OE.bx b_3 [vB x_11, .slice none 0 0, vI (wI (x_13 - x_10)), vB x_49, v_67, vB false, vS x_19], own eI v_67 x_66] := hS
              refine lxE_nil trivial ?_
              refine QE_blk_n ?_
              refine QE_then_n ?_
              exact wpC_le _ (by exact ⟨rfl, rfl, rfl, rfl, rfl, rfl, trivial⟩) (hK_73 x_66 _ _ ⟨v_67, rfl, (hS.pick [1, 3, 2] (by decide) rfl)⟩ h)
             ·have h := if_f h hb_69
              refine wpC_skip (QE_blk_n ?_)
              refine QE_then_n ?_
              exact wpC_le _ (by exact ⟨rfl, rfl, rfl, rfl, rfl, rfl, trivial⟩) (hK_73 x_53 _ _ ⟨v_54, rfl, (hS.pick [0, 2, 1] (by decide) rfl)⟩ h)
            ·intro hK_62
             refine wpC_region (wpR_v (OpV_move rfl) rfl (wpR_v (OpV_move rfl) rfl ?_))
             obtain ⟨x_59, hx_59, h⟩ := obind_some h
             refine wpR_v (G_ixS Tryd.underlying9 rfl rfl hx_59) rfl ?_
             refine wpR_v (OpV_bin rfl rfl (b_neq8 _ x_59 48)) rfl ?_
             refine wpR_v (OpV_move rfl) rfl ?_
             cases hb_60 : (x_59 != 48)
             case true =>
              have h := if_t h hb_60
              try simp only [hb_60]
              refine wpR_gskip (b := true) (t := 147) rfl rfl rfl rfl ?_
              refine wpR_gskip (b := true) (t := 147) rfl rfl rfl rfl ?_
              refine wpR_gskip (b := true) (t := 147) rfl rfl rfl rfl ?_
              refine wpR_gskip (b := true) (t := 147) rfl rfl rfl rfl ?_
              refine wpR_v (OpV_pickT rfl rfl) rfl (wpR_nil (QE_then_n ?_))
              exact wpC_le _ (by exact ⟨rfl, rfl, rfl, rfl, rfl, rfl, rfl, trivial⟩) (hK_62 true _ _ ⟨rfl, (hS.pick [0, 2, 1] (by decide) rfl)⟩ h)
             case false =>
              have h := if_f h hb_60
              try simp only [hb_60]
              refine wpR_gv (t := 147) rfl rfl (OpV_fieldB (k := 4) Tryd.underlying146 rfl rfl nz60 rfl) rfl ?_
              refine wpR_gv (t := 147) rfl rfl (OpV_ldB Tryd.underlying60 rfl rfl (hS.bxc 2 rfl 4)) rfl ?_
              refine wpR_gv (t := 147) rfl rfl (OpV_len Tryd.underlying60 rfl (hS.ro 1 rfl)) rfl ?_
              refine wpR_gv (t := 147) rfl rfl (OpV_bin rfl rfl (b_igtr _ (x_53.length : Int) 0)) rfl ?_
              refine wpR_v (OpV_pickF rfl rfl) rfl (wpR_nil (QE_then_n ?_))
              exact wpC_le _ (by exact ⟨rfl, rfl, rfl, rfl, rfl, rfl, rfl, trivial⟩) (hK_62 (decide ((0 : Int) < (x_53.length : Int))) _ _ ⟨rfl, (hS.pick [0, 2, 1] (by decide) rfl)⟩ h)
          ·have h := if_f h hb_74
           refine wpC_exit ?_
           refine QE_then_x (QE_then_x ?_)
           have h := oinr_some h hk_56
           refine QE_blk_x ?_
           refine QE_then_n (wpC_region (wpR_v (OpV_move rfl) rfl (wpR_v (OpV_assign rfl) rfl (wpR_nil (QE_then_n ?_)))))
           exact wpC_le _ (by exact ⟨rfl, rfl, rfl, rfl, rfl, trivial⟩) (hK_84 (x_51, x_49, x_53, false) _ _ ⟨v_54, rfl, hS⟩ h)
        ·intro hK_50
         refine seq_join (r := r) (fun (g : Bool) L w => L = [(0, vS a0), (2, pB b_1 0), (4, pB b_3 0), (5, vI (wI (x_30 + 1))), (7, vS x_31), (122, vB g)] ∧ St [] w0 w [OE.bx b_1 [vB false, .slice none 0 0, vI 0, vB false, .slice none 0 0, vB false, vS []], OE.bx b_3 [vB x_11, .slice none 0 0, vI (wI (x_13 - x_10)), vB false, .slice none 0 0, vB false, vS x_19]]) (F.ref2_Read_K12 a0 x_30 x_10 x_11 x_13 x_19 x_31) ?_ ?_
         ·rintro x_44 L w hJ h
          try dsimp only at hJ
          obtain ⟨rfl, hS⟩ := hJ
          unfold F.ref2_Read_K12 at h
          refine wpC_cond rfl (fun hb_47 => ?_) (fun hb_47 => ?_)
          ·have h := if_t h hb_47
           refine wpC_seq (wpC_region (wpR_v (OpV_move rfl) rfl (wpR_v (OpV_move rfl) rfl ?_)))
           obtain ⟨x_46, hx_46, h⟩ := obind_some h
           refine wpR_v (G_ixS Tryd.underlying9 rfl rfl hx_46) rfl ?_
           refine wpR_v (OpV_bin rfl rfl (b_eql8 _ x_46 45)) rfl ?_
           refine wpR_v (OpV_fieldB (k := 3) Tryd.underlying146 rfl rfl nz4 rfl) rfl ?_
           refine wpR_y (OpY_stB (i := 1) (us := [vB (x_46 == 45)]) rfl sz4 rfl rfl rfl ⟨rfl, trivial⟩ rfl hS) ?_
           intro w hS
           replace hS : St _ w0 w [OE.bx b_1 [vB false, .slice none 0 0, vI 0, vB false, .slice none 0 0, vB false, vS []], OE.bx b_3 [vB x_11, .slice none 0 0, vI (wI (x_13 - x_10)), vB (x_46 == 45), .slice none 0 0, vB false, vS x_19]] := hS
           refine wpR_nil (QE_then_n (wpC_region (wpR_v (OpV_move rfl) rfl (wpR_v (OpV_bin rfl rfl (b_iadd _ (wI (x_30 + 1)) 1)) rfl ?_))))
           refine wpR_v (OpV_assign rfl) rfl (wpR_nil (QE_then_n ?_))
           exact wpC_le _ (by exact ⟨rfl, rfl, rfl, rfl, rfl, trivial⟩) (hK_50 (wI ((wI (x_30 + 1)) + 1), x_46 == 45) _ _ ⟨rfl, hS⟩ h)
          ·have h := if_f h hb_47
           refine wpC_skip (QE_then_n ?_)
           exact wpC_le _ (by exact ⟨rfl, rfl, rfl, rfl, rfl, trivial⟩) (hK_50 (wI (x_30 + 1), false) _ _ ⟨rfl, hS⟩ h)
         ·intro hK_45
          refine wpC_region (wpR_v (OpV_move rfl) rfl (wpR_v (OpV_move rfl) rfl (wpR_v (OpV_lenS Tryd.underlying9 rfl) rfl ?_)))
          refine wpR_v (OpV_bin rfl rfl (b_ilss _ (wI (x_30 + 1)) (a0.length : Int))) rfl ?_
          refine wpR_v (OpV_move rfl) rfl ?_
          cases hb_40 : (decide ((wI (x_30 + 1)) < (a0.length : Int)))
          case true =>
           have h := if_t h hb_40
           try simp only [hb_40]
           refine wpR_gv (t := 111) rfl rfl (OpV_move rfl) rfl ?_
           refine wpR_gv (t := 111) rfl rfl (OpV_move rfl) rfl ?_
           obtain ⟨x_41, hx_41, h⟩ := obind_some h
           refine wpR_gv (t := 111) rfl rfl (G_ixS Tryd.underlying9 rfl rfl hx_41) rfl ?_
           refine wpR_gv (t := 111) rfl rfl (OpV_bin rfl rfl (b_eql8 _ x_41 43)) rfl ?_
           refine wpR_gv (t := 111) rfl rfl (OpV_move rfl) rfl ?_
           cases hb_42 : (x_41 == 43)
           case true =>
            have h := if_t h hb_42
            try simp only [hb_42]
            refine wpR_gskip (b := true) (t := 116) rfl rfl rfl rfl ?_
            refine wpR_gskip (b := true) (t := 116) rfl rfl rfl rfl ?_
            refine wpR_gskip (b := true) (t := 116) rfl rfl rfl rfl ?_
            refine wpR_gskip (b := true) (t := 116) rfl rfl rfl rfl ?_
            refine wpR_gv (t := 111) rfl rfl (OpV_pickT rfl rfl) rfl ?_
            refine wpR_v (OpV_pickT rfl rfl) rfl (wpR_nil (QE_then_n ?_))
            exact wpC_le _ (by exact ⟨rfl, rfl, rfl, rfl, rfl, rfl, trivial⟩) (hK_45 true _ _ ⟨rfl, hS⟩ h)
           case false =>
            have h := if_f h hb_42
            try simp only [hb_42]
            refine wpR_gv (t := 116) rfl rfl (OpV_move rfl) rfl ?_
            refine wpR_gv (t := 116) rfl rfl (OpV_move rfl) rfl ?_
            obtain ⟨x_43, hx_43, h⟩ := obind_some h
            refine wpR_gv (t := 116) rfl rfl (G_ixS Tryd.underlying9 rfl rfl hx_43) rfl ?_
            refine wpR_gv (t := 116) rfl rfl (OpV_bin rfl rfl (b_eql8 _ x_43 45)) rfl ?_
            refine wpR_gv (t := 111) rfl rfl (OpV_pickF rfl rfl) rfl ?_
            refine wpR_v (OpV_pickT rfl rfl) rfl (wpR_nil (QE_then_n ?_))
            exact wpC_le _ (by exact ⟨rfl, rfl, rfl, rfl, rfl, rfl, trivial⟩) (hK_45 (x_43 == 45) _ _ ⟨rfl, hS⟩ h)
          case false =>
           have h := if_f h hb_40
           try simp only [hb_40]
           refine wpR_gskip (b := false) (t := 111) rfl rfl rfl rfl ?_
           refine wpR_gskip (b := false) (t := 111) rfl rfl rfl rfl ?_
           refine wpR_gskip (b := false) (t := 111) rfl rfl rfl rfl ?_
           refine wpR_gskip (b := false) (t := 111) rfl rfl rfl rfl ?_
           refine wpR_gskip (b := false) (t := 111) rfl rfl rfl rfl ?_
           refine wpR_gskipU (t := 116) rfl rfl rfl ?_
           refine wpR_gskipU (t := 116) rfl rfl rfl ?_
           refine wpR_gskipU (t := 116) rfl rfl rfl ?_
           refine wpR_gskipU (t := 116) rfl rfl rfl ?_
           refine wpR_gskip (b := false) (t := 111) rfl rfl rfl rfl ?_
           refine wpR_v (OpV_pickF rfl rfl) rfl (wpR_nil (QE_then_n ?_))
           exact wpC_le _ (by exact ⟨rfl, rfl, rfl, rfl, rfl, rfl, trivial⟩) (hK_45 false _ _ ⟨rfl, hS⟩ h)
       ·have h := if_f h hb_77
        refine wpC_skip (QE_then_n ?_)
        exact wpC_le _ (by exact ⟨rfl, rfl, rfl, rfl, rfl, trivial⟩) (hK_84 (x_30, false, [], x_32) _ _ ⟨.slice none 0 0, rfl, ((hS.nil eI).pick [1, 0, 2] (by decide) rfl)⟩ h)
      ·intro hK_39
       refine wpC_region (wpR_v (OpV_move rfl) rfl (wpR_v (OpV_move rfl) rfl (wpR_v (OpV_lenS Tryd.underlying9 rfl) rfl ?_)))
       refine wpR_v (OpV_bin rfl rfl (b_ilss _ x_30 (a0.length : Int))) rfl ?_
       refine wpR_v (OpV_move rfl) rfl ?_
       cases hb_34 : (decide (x_30 < (a0.length : Int)))
       case true =>
        have h := if_t h hb_34
        try simp only [hb_34]
        refine wpR_gv (t := 92) rfl rfl (OpV_move rfl) rfl ?_
        refine wpR_gv (t := 92) rfl rfl (OpV_move rfl) rfl ?_
        obtain ⟨x_35, hx_35, h⟩ := obind_some h
        refine wpR_gv (t := 92) rfl rfl (G_ixS Tryd.underlying9 rfl rfl hx_35) rfl ?_
        refine wpR_gv (t := 92) rfl rfl (OpV_bin rfl rfl (b_eql8 _ x_35 101)) rfl ?_
        refine wpR_gv (t := 92) rfl rfl (OpV_move rfl) rfl ?_
        cases hb_36 : (x_35 == 101)
        case true =>
         have h := if_t h hb_36
         try simp only [hb_36]
         refine wpR_gskip (b := true) (t := 97) rfl rfl rfl rfl ?_
         refine wpR_gskip (b := true) (t := 97) rfl rfl rfl rfl ?_
         refine wpR_gskip (b := true) (t := 97) rfl rfl rfl rfl ?_
         refine wpR_gskip (b := true) (t := 97) rfl rfl rfl rfl ?_
         refine wpR_gv (t := 92) rfl rfl (OpV_pickT rfl rfl) rfl ?_
         refine wpR_v (OpV_pickT rfl rfl) rfl (wpR_nil (QE_then_n ?_))
         exact wpC_le _ (by exact ⟨rfl, rfl, rfl, rfl, rfl, rfl, trivial⟩) (hK_39 true _ _ ⟨rfl, hS⟩ h)
        case false =>
         have h := if_f h hb_36
         try simp only [hb_36]
         refine wpR_gv (t := 97) rfl rfl (OpV_move rfl) rfl ?_
         refine wpR_gv (t := 97) rfl rfl (OpV_move rfl) rfl ?_
         obtain ⟨x_37, hx_37, h⟩ := obind_some h
         refine wpR_gv (t := 97) rfl rfl (G_ixS Tryd.underlying9 rfl rfl hx_37) rfl ?_
         refine wpR_gv (t := 97) rfl rfl (OpV_bin rfl rfl (b_eql8 _ x_37 69)) rfl ?_
         refine wpR_gv (t := 92) rfl rfl (OpV_pickF rfl rfl) rfl ?_
         refine wpR_v (OpV_pickT rfl rfl) rfl (wpR_nil (QE_then_n ?_))
         exact wpC_le _ (by exact ⟨rfl, rfl, rfl, rfl, rfl, rfl, trivial⟩) (hK_39 (x_37 == 69) _ _ ⟨rfl, hS⟩ h)
       case false =>
        have h := if_f h hb_34
        try simp only [hb_34]
        refine wpR_gskip (b := false) (t := 92) rfl rfl rfl rfl ?_
        refine wpR_gskip (b := false) (t := 92) rfl rfl rfl rfl ?_
        refine wpR_gskip (b := false) (t := 92) rfl rfl rfl rfl ?_
        refine wpR_gskip (b := false) (t := 92) rfl rfl rfl rfl ?_
        refine wpR_gskip (b := false) (t := 92) rfl rfl rfl rfl ?_
        refine wpR_gskipU (t := 97) rfl rfl rfl ?_
        refine wpR_gskipU (t := 97) rfl rfl rfl ?_
        refine wpR_gskipU (t := 97) rfl rfl rfl ?_
        refine wpR_gskipU (t := 97) rfl rfl rfl ?_
        refine wpR_gskip (b := false) (t := 92) rfl rfl rfl rfl ?_
        refine wpR_v (OpV_pickF rfl rfl) rfl (wpR_nil (QE_then_n ?_))
        exact wpC_le _ (by exact ⟨rfl, rfl, rfl, rfl, rfl, rfl, trivial⟩) (hK_39 false _ _ ⟨rfl, hS⟩ h)
    ·intro hK_33
     refine seq_join (r := r) (fun (g : Bool) L w => L = [(0, vS a0), (2, pB b_1 0), (4, pB b_3 0), (5, vI x_13), (7, vS x_20), (69, vB g)] ∧ St [] w0 w [OE.bx b_1 [vB false, .slice none 0 0, vI 0, vB false, .slice none 0 0, vB false, vS []], OE.bx b_3 [vB x_11, .slice none 0 0, vI (wI (x_13 - x_10)), vB false, .slice none 0 0, vB true, vS x_19]]) (F.ref2_Read_K13 a0 x_10 x_11 x_13 x_19 x_20) ?_ ?_
     ·rintro x_23 L w hJ h
      try dsimp only at hJ
      obtain ⟨rfl, hS⟩ := hJ
      unfold F.ref2_Read_K13 at h
      refine wpC_cond rfl (fun hb_29 => ?_) (fun hb_29 => ?_)
      ·have h := if_t h hb_29
       refine wpC_seq (wpC_region (wpR_v (OpV_fieldB (k := 5) Tryd.underlying146 rfl rfl nz4 rfl) rfl ?_))
       refine wpR_y (OpY_stB (i := 1) (us := [vB false]) rfl sz4 rfl rfl rfl ⟨rfl, trivial⟩ rfl hS) ?_
       intro w hS
       replace hS : St _ w0 w [OE.bx b_1 [vB false, .slice none 0 0, vI 0, vB false, .slice none 0 0, vB false, vS []], OE.bx b_3 [vB x_11, .slice none 0 0, vI (wI (x_13 - x_10)), vB false, .slice none 0 0, vB false, vS x_19]] := hS
       refine wpR_nil (QE_then_n (wpC_seq (wpC_region (wpR_v (OpV_move rfl) rfl (wpR_v (OpV_move rfl) rfl (wpR_v (OpV_bin rfl rfl (b_iadd _ x_13 1)) rfl ?_))))))
       obtain ⟨x_25, hx_25, h⟩ := obind_some h
       refine wpR_call (by kernel_rfl) rfl (c_ref2_many _ a0 (wI (x_13 + 1))    _ hx_25) rfl ?_
       rintro _ w ⟨rfl, hS1⟩
       have hS := hS.call hS1
       simp only [List.cons_append, List.nil_append] at hS
       refine wpR_v (OpV_assign rfl) rfl (wpR_nil (QE_then_n (wpC_seq (wpC_seq (wpC_region (wpR_v (OpV_move rfl) rfl ?_))))))
       refine wpR_v (OpV_move rfl) rfl (wpR_v (OpV_bin rfl rfl (b_iadd _ x_13 1)) rfl ?_)
       refine wpR_v (OpV_bin rfl rfl (b_ieql _ x_25 (wI (x_13 + 1)))) rfl ?_
       refine wpR_nil (QE_then_n ?_)
       refine wpC_cond rfl (fun hb_28 => ?_) (fun hb_28 => ?_)
       ·have h := if_t h hb_28
        refine wpC_seq (wpC_region (wpR_v (OpV_ldBs (us := [vB x_11, .slice none 0 0, vI (wI (x_13 - x_10)), vB false, .slice none 0 0, vB false, vS x_19]) Tryd.underlying146 rfl sz146 rfl (hS.bxs 1 rfl rfl)) rfl ?_))
        refine wpR_y (OpY_stB (i := 0) (us := [vB x_11, .slice none 0 0, vI (wI (x_13 - x_10)), vB false, .slice none 0 0, vB false, vS x_19]) rfl sz146 rfl rfl rfl ⟨rfl, rfl, rfl, rfl, rfl, rfl, rfl, trivial⟩ rfl hS) ?_
        intro w hS
        replace hS : St _ w0 w [OE.bx b_1 [vB x_11, .slice none 0 0, vI (wI (x_13 - x_10)), vB false, .slice none 0 0, vB false, vS x_19], OE.bx b_3 [vB x_11, .slice none 0 0, vI (wI (x_13 - x_10)), vB false, .slice none 0 0, vB false, vS x_19]] := hS
        refine wpR_v (OpV_assign rfl) rfl (wpR_nil (QE_then_n (wpC_ret (QE_then_r (QE_then_r ?_)))))
        cases h
        exact QE_rv2 rfl ⟨_, rfl, run_ldAgg (us := [vB x_11, .slice none 0 0, vI (wI (x_13 - x_10)), vB false, .slice none 0 0, vB false, vS x_19]) Tryd.underlying146 rfl sz146 (hS.bxs 0 rfl rfl)⟩ rfl ⟨.slice none 0 0, .slice none 0 0, rfl, ((hS.nil eI).nil eI).pick [1, 0] (by decide) rfl⟩
       ·have h := if_f h hb_28
        refine wpC_skip (QE_then_n (wpC_seq (wpC_region (wpR_v (OpV_move rfl) rfl (wpR_v (OpV_move rfl) rfl (wpR_v (OpV_move rfl) rfl ?_))))))
        refine wpR_v (OpV_bin rfl rfl (b_iadd _ x_13 1)) rfl ?_
        refine wpR_v (OpV_move rfl) rfl ?_
        obtain ⟨x_26, hx_26, h⟩ := obind_some h
        refine wpR_v (G_slS Tryd.underlying9 rfl rfl rfl hx_26) rfl ?_
        obtain ⟨x_27, hx_27, h⟩ := obind_some h
        refine wpR_v (OpV_bin rfl rfl (G_sadd _ hx_27)) rfl ?_
        refine wpR_v (OpV_assign rfl) rfl (wpR_nil (QE_then_n (wpC_region (wpR_v (OpV_move rfl) rfl (wpR_v (OpV_assign rfl) rfl (wpR_nil ?_))))))
        refine QE_then_n ?_
        exact wpC_le _ (by exact ⟨rfl, rfl, rfl, rfl, rfl, trivial⟩) (hK_33 (x_25, x_27, false) _ _ ⟨rfl, hS⟩ h)
      ·have h := if_f h hb_29
       refine wpC_skip (QE_then_n ?_)
       exact wpC_le _ (by exact ⟨rfl, rfl, rfl, rfl, rfl, trivial⟩) (hK_33 (x_13, x_20, true) _ _ ⟨rfl, hS⟩ h)
     ·intro hK_24
      refine wpC_region (wpR_v (OpV_move rfl) rfl (wpR_v (OpV_move rfl) rfl (wpR_v (OpV_lenS Tryd.underlying9 rfl) rfl ?_)))
      refine wpR_v (OpV_bin rfl rfl (b_ilss _ x_13 (a0.length : Int))) rfl ?_
      refine wpR_v (OpV_move rfl) rfl ?_
      cases hb_21 : (decide (x_13 < (a0.length : Int)))
      case true =>
       have h := if_t h hb_21
       try simp only [hb_21]
       refine wpR_gv (t := 64) rfl rfl (OpV_move rfl) rfl ?_
       refine wpR_gv (t := 64) rfl rfl (OpV_move rfl) rfl ?_
       obtain ⟨x_22, hx_22, h⟩ := obind_some h
       refine wpR_gv (t := 64) rfl rfl (G_ixS Tryd.underlying9 rfl rfl hx_22) rfl ?_
       refine wpR_gv (t := 64) rfl rfl (OpV_bin rfl rfl (b_eql8 _ x_22 46)) rfl ?_
       refine wpR_v (OpV_pickT rfl rfl) rfl (wpR_nil (QE_then_n ?_))
       exact wpC_le _ (by exact ⟨rfl, rfl, rfl, rfl, rfl, rfl, trivial⟩) (hK_24 (x_22 == 46) _ _ ⟨rfl, hS⟩ h)
      case false =>
       have h := if_f h hb_21
       try simp only [hb_21]
       refine wpR_gskip (b := false) (t := 64) rfl rfl rfl rfl ?_
       refine wpR_gskip (b := false) (t := 64) rfl rfl rfl rfl ?_
       refine wpR_gskip (b := false) (t := 64) rfl rfl rfl rfl ?_
       refine wpR_gskip (b := false) (t := 64) rfl rfl rfl rfl ?_
       refine wpR_v (OpV_pickF rfl rfl) rfl (wpR_nil (QE_then_n ?_))
       exact wpC_le _ (by exact ⟨rfl, rfl, rfl, rfl, rfl, rfl, trivial⟩) (hK_24 false _ _ ⟨rfl, hS⟩ h)
  ·intro hK_18
   refine wpC_region (wpR_v (OpV_move rfl) rfl (wpR_v (OpV_move rfl) rfl (wpR_v (OpV_bin rfl rfl (b_ieql _ x_13 x_10)) rfl ?_)))
   refine wpR_v (OpV_move rfl) rfl ?_
   cases hb_14 : (x_13 == x_10)
   case true =>
    have h := if_t h hb_14
    try simp only [hb_14]
    refine wpR_gskip (b := true) (t := 34) rfl rfl rfl rfl ?_
    refine wpR_gskip (b := true) (t := 34) rfl rfl rfl rfl ?_
    refine wpR_gskip (b := true) (t := 34) rfl rfl rfl rfl ?_
    refine wpR_gskip (b := true) (t := 34) rfl rfl rfl rfl ?_
    refine wpR_gskip (b := true) (t := 34) rfl rfl rfl rfl ?_
    refine wpR_gskipU (t := 39) rfl rfl rfl ?_
    refine wpR_gskipU (t := 39) rfl rfl rfl ?_
    refine wpR_gskipU (t := 39) rfl rfl rfl ?_
    refine wpR_gskipU (t := 39) rfl rfl rfl ?_
    refine wpR_gskip (b := true) (t := 34) rfl rfl rfl rfl ?_
    refine wpR_v (OpV_pickT rfl rfl) rfl (wpR_nil (QE_then_n ?_))
    exact wpC_le _ (by exact ⟨rfl, rfl, rfl, rfl, rfl, rfl, trivial⟩) (hK_18 true _ _ ⟨rfl, hS⟩ h)
   case false =>
    have h := if_f h hb_14
    try simp only [hb_14]
    refine wpR_gv (t := 34) rfl rfl (OpV_move rfl) rfl ?_
    refine wpR_gv (t := 34) rfl rfl (OpV_move rfl) rfl ?_
    obtain ⟨x_15, hx_15, h⟩ := obind_some h
    refine wpR_gv (t := 34) rfl rfl (G_ixS Tryd.underlying9 rfl rfl hx_15) rfl ?_
    refine wpR_gv (t := 34) rfl rfl (OpV_bin rfl rfl (b_eql8 _ x_15 48)) rfl ?_
    refine wpR_gv (t := 34) rfl rfl (OpV_move rfl) rfl ?_
    cases hb_16 : (x_15 == 48)
    case true =>
     have h := if_t h hb_16
     try simp only [hb_16]
     refine wpR_gv (t := 39) rfl rfl (OpV_move rfl) rfl ?_
     refine wpR_gv (t := 39) rfl rfl (OpV_move rfl) rfl ?_
     refine wpR_gv (t := 39) rfl rfl (OpV_bin rfl rfl (b_iadd _ x_10 1)) rfl ?_
     refine wpR_gv (t := 39) rfl rfl (OpV_bin rfl rfl (b_igtr _ x_13 (wI (x_10 + 1)))) rfl ?_
     refine wpR_gv (t := 34) rfl rfl (OpV_pickT rfl rfl) rfl ?_
     refine wpR_v (OpV_pickF rfl rfl) rfl (wpR_nil (QE_then_n ?_))
     exact wpC_le _ (by exact ⟨rfl, rfl, rfl, rfl, rfl, rfl, trivial⟩) (hK_18 (decide ((wI (x_10 + 1)) < x_13)) _ _ ⟨rfl, hS⟩ h)
    case false =>
     have h := if_f h hb_16
     try simp only [hb_16]
     refine wpR_gskip (b := false) (t := 39) rfl rfl rfl rfl ?_
     refine wpR_gskip (b := false) (t := 39) rfl rfl rfl rfl ?_
     refine wpR_gskip (b := false) (t := 39) rfl rfl rfl rfl ?_
     refine wpR_gskip (b := false) (t := 39) rfl rfl rfl rfl ?_
     refine wpR_gv (t := 34) rfl rfl (OpV_pickF rfl rfl) rfl ?_
     refine wpR_v (OpV_pickF rfl rfl) rfl (wpR_nil (QE_then_n ?_))
     exact wpC_le _ (by exact ⟨rfl, rfl, rfl, rfl, rfl, rfl, trivial⟩) (hK_18 false _ _ ⟨rfl, hS⟩ h)
 ·intro hK_12
  refine seq_join (r := r) (fun (g : Bool) L w => L = [(0, vS a0), (2, pB b_1 0), (4, pB b_3 0), (5, vI 0), (23, vB g)] ∧ St [] w0 w [OE.bx b_1 [vB false, .slice none 0 0, vI 0, vB false, .slice none 0 0, vB false, vS []], OE.bx b_3 [vB false, .slice none 0 0, vI 0, vB false, .slice none 0 0, vB true, vS []]]) (F.ref2_Read_K14 a0) ?_ ?_
  ·rintro x_7 L w hJ h
   try dsimp only at hJ
   obtain ⟨rfl, hS⟩ := hJ
   unfold F.ref2_Read_K14 at h
   refine wpC_cond rfl (fun hb_9 => ?_) (fun hb_9 => ?_)
   ·have h := if_t h hb_9
    refine wpC_seq (wpC_region (wpR_v (OpV_fieldB (k := 0) Tryd.underlying146 rfl rfl nz4 rfl) rfl ?_))
    refine wpR_y (OpY_stB (i := 1) (us := [vB true]) rfl sz4 rfl rfl rfl ⟨rfl, trivial⟩ rfl hS) ?_
    intro w hS
    replace hS : St _ w0 w [OE.bx b_1 [vB false, .slice none 0 0, vI 0, vB false, .slice none 0 0, vB false, vS []], OE.bx b_3 [vB true, .slice none 0 0, vI 0, vB false, .slice none 0 0, vB true, vS []]] := hS
    refine wpR_nil (QE_then_n (wpC_region (wpR_v (OpV_move rfl) rfl (wpR_v (OpV_bin rfl rfl (b_iadd _ 0 1)) rfl ?_))))
    refine wpR_v (OpV_assign rfl) rfl (wpR_nil (QE_then_n ?_))
    exact wpC_le _ (by exact ⟨rfl, rfl, rfl, rfl, trivial⟩) (hK_12 (1, true) _ _ ⟨rfl, hS⟩ h)
   ·have h := if_f h hb_9
    refine wpC_skip (QE_then_n ?_)
    exact wpC_le _ (by exact ⟨rfl, rfl, rfl, rfl, trivial⟩) (hK_12 (0, false) _ _ ⟨rfl, hS⟩ h)
  ·intro hK_8
   refine wpC_region (wpR_v (OpV_move rfl) rfl (wpR_v (OpV_move rfl) rfl (wpR_v (OpV_lenS Tryd.underlying9 rfl) rfl ?_)))
   refine wpR_v (OpV_bin rfl rfl (b_ilss _ 0 (a0.length : Int))) rfl ?_
   refine wpR_v (OpV_move rfl) rfl ?_
   cases hb_5 : (decide ((0 : Int) < (a0.length : Int)))
   case true =>
    have h := if_t h hb_5
    try simp only [hb_5]
    refine wpR_gv (t := 18) rfl rfl (OpV_move rfl) rfl ?_
    refine wpR_gv (t := 18) rfl rfl (OpV_move rfl) rfl ?_
    obtain ⟨x_6, hx_6, h⟩ := obind_some h
    refine wpR_gv (t := 18) rfl rfl (G_ixS Tryd.underlying9 rfl rfl hx_6) rfl ?_
    refine wpR_gv (t := 18) rfl rfl (OpV_bin rfl rfl (b_eql8 _ x_6 45)) rfl ?_
    refine wpR_v (OpV_pickT rfl rfl) rfl (wpR_nil (QE_then_n ?_))
    exact wpC_le _ (by exact ⟨rfl, rfl, rfl, rfl, rfl, trivial⟩) (hK_8 (x_6 == 45) _ _ ⟨rfl, (hS.pick [1, 0] (by decide) rfl)⟩ h)
   case false =>
    have h := if_f h hb_5
    try simp only [hb_5]
    refine wpR_gskip (b := false) (t := 18) rfl rfl rfl rfl ?_
    refine wpR_gskip (b := false) (t := 18) rfl rfl rfl rfl ?_
    refine wpR_gskip (b := false) (t := 18) rfl rfl rfl rfl ?_
    refine wpR_gskip (b := false) (t := 18) rfl rfl rfl rfl ?_
    refine wpR_v (OpV_pickF rfl rfl) rfl (wpR_nil (QE_then_n ?_))
    exact wpC_le _ (by exact ⟨rfl, rfl, rfl, rfl, rfl, trivial⟩) (hK_8 false _ _ ⟨rfl, (hS.pick [1, 0] (by decide) rfl)⟩ h)
theorem c_ref2_Whole (w0 : World) (a0 : List UInt8)   (r : Int × Bool)
  (h : F.ref2_Whole a0 = some r) : Calls Tryd.prog 84 #[vS a0] w0 (Ret fun v w => v = .tuple #[vI r.1, vB r.2] ∧ St [] w0 w []) := by
 refine calls_at 50 Tryd.func84 rfl rfl rfl ?_
 have hS := St.start w0
 refine wpC_le [(0, vS a0)] ⟨rfl, trivial⟩ ?_
 unfold F.ref2_Whole at h
 refine wpC_seq (wpC_region (wpR_v (OpV_assign rfl) rfl (wpR_v (OpV_assign rfl) rfl (wpR_nil (QE_then_n (wpC_seq ?_))))))
 refine wpC_region (wpR_v (OpV_move rfl) rfl ?_)
 obtain ⟨x_1, hx_1, h⟩ := obind_some h
 refine wpR_call (by kernel_rfl) rfl (c_ref2_Read _ a0    _ hx_1) rfl ?_
 rintro _ w ⟨v_2, v_4, rfl, hS1⟩
 have hS := hS.call hS1
 simp only [List.cons_append, List.nil_append] at hS
 refine wpR_v (OpV_move rfl) rfl (wpR_v (OpV_extract rfl rfl) rfl ?_)
 refine wpR_v (OpV_extract rfl rfl) rfl ?_
 refine wpR_x (OpX_alloc (cs := [vB false, .slice none 0 0, vI 0, vB false, .slice none 0 0, vB false, vS []]) tz146 rfl hS) rfl ?_
 rintro _ w ⟨b_6, rfl, hS⟩
 refine wpR_y (OpY_stB (i := 0) (us := [vB x_1.1, v_2, vI x_1.2.2.1, vB x_1.2.2.2.1, v_4, vB x_1.2.2.2.2.2.1, vS x_1.2.2.2.2.2.2.1]) rfl sz146 rfl rfl rfl ⟨rfl, (hS.ro 1 rfl).one, rfl, rfl, (hS.ro 2 rfl).one, rfl, rfl, trivial⟩ rfl hS) ?_
 intro w hS
 replace hS : St _ w0 w [OE.bx b_6 [vB x_1.1, v_2, vI x_1.2.2.1, vB x_1.2.2.2.1, v_4, vB x_1.2.2.2.2.2.1, vS x_1.2.2.2.2.2.2.1], own eI v_2 x_1.2.1, own eI v_4 x_1.2.2.2.2.1] := hS
 refine wpR_v (OpV_assign rfl) rfl (wpR_nil (QE_then_n (wpC_seq ?_)))
 refine seq_join (r := r) (fun (g : Bool) L w => L = [(4, pB b_6 0), (20, vB g)] ∧ St [] w0 w [OE.bx b_6 [vB x_1.1, v_2, vI x_1.2.2.1, vB x_1.2.2.2.1, v_4, vB x_1.2.2.2.2.2.1, vS x_1.2.2.2.2.2.2.1], own eI v_2 x_1.2.1, own eI v_4 x_1.2.2.2.2.1]) (F.ref2_Whole_K1 x_1) ?_ ?_
 ·rintro x_9 L w hJ h
  try dsimp only at hJ
  obtain ⟨rfl, hS⟩ := hJ
  unfold F.ref2_Whole_K1 at h
  refine wpC_cond rfl (fun hb_24 => ?_) (fun hb_24 => ?_)
  ·have h := if_t h hb_24
   refine wpC_seq (wpC_region (wpR_v (OpV_assign rfl) rfl (wpR_v (OpV_assign rfl) rfl (wpR_nil (QE_then_n (wpC_ret ?_))))))
   refine QE_then_r ?_
   cases h
   exact QE_ret2 rfl rfl rfl ⟨rfl, hS.pick [] (by decide) rfl⟩
  ·have h := if_f h hb_24
   refine wpC_skip (QE_then_n (wpC_seq (wpC_region (wpR_v (OpV_assign rfl) rfl (wpR_nil (QE_then_n ?_))))))
   refine wpC_seq (wpC_seq (wpC_region (wpR_v (OpV_assign rfl) rfl (wpR_nil (QE_then_n (wpC_block ?_))))))
   refine wpC_le [(4, pB b_6 0), (6, vI 0), (7, vI 0)] ⟨rfl, rfl, rfl, trivial⟩ ?_
   refine loop_ind (F.ref2_Whole_L1 x_1) (fun (s : Int × Int) L w => L = [(4, pB b_6 0), (6, vI s.1), (7, vI s.2)] ∧ St [] w0 w [OE.bx b_6 [vB x_1.1, v_2, vI x_1.2.2.1, vB x_1.2.2.2.1, v_4, vB x_1.2.2.2.2.2.1, vS x_1.2.2.2.2.2.2.1], own eI v_2 x_1.2.1, own eI v_4 x_1.2.2.2.2.1]) ?_ (0, 0) ⟨rfl, hS⟩ h
   rintro k_23 ⟨x_11, x_12⟩ L w q_15 hI ih_14 h hk_13
   try dsimp only at hI
   obtain ⟨rfl, hS⟩ := hI
   unfold F.ref2_Whole_L1 at h
   refine wpC_seq (wpC_seq (wpC_region (wpR_v (OpV_move rfl) rfl (wpR_v (OpV_fieldB (k := 6) Tryd.underlying146 rfl rfl nz9 rfl) rfl ?_))))
   refine wpR_v (OpV_ldB Tryd.underlying9 rfl rfl (hS.bxc 0 rfl 6)) rfl ?_
   refine wpR_v (OpV_lenS Tryd.underlying9 rfl) rfl ?_
   refine wpR_v (OpV_bin rfl rfl (b_ilss _ x_12 (x_1.2.2.2.2.2.2.1.length : Int))) rfl ?_
   refine wpR_nil (QE_then_n ?_)
   refine wpC_cond rfl (fun hb_22 => ?_) (fun hb_22 => ?_)
   ·have h := if_t h hb_22
    refine wpC_skip (QE_then_n (wpC_seq (wpC_block ?_)))
    refine wpC_seq (wpC_region (wpR_v (OpV_fieldB (k := 6) Tryd.underlying146 rfl rfl nz9 rfl) rfl ?_))
    refine wpR_v (OpV_ldB Tryd.underlying9 rfl rfl (hS.bxc 0 rfl 6)) rfl ?_
    refine wpR_v (OpV_move rfl) rfl ?_
    obtain ⟨x_16, hx_16, h⟩ := obind_some h
    refine wpR_v (G_ixS Tryd.underlying9 rfl rfl hx_16) rfl ?_
    refine wpR_v (OpV_bin rfl rfl (b_sub8 _ x_16 48)) rfl ?_
    refine wpR_v (OpV_conv rfl (cv_8_i Tryd.underlying5 Tryd.underlying2 (x_16 - 48))) rfl ?_
    obtain ⟨x_17, hx_17, h⟩ := olet_some h
    refine wpR_v (OpV_assign (v := vI x_17) (by rw [← hx_17]; rfl)) rfl ?_
    refine wpR_nil (QE_then_n (wpC_seq (wpC_seq (wpC_region (wpR_v (OpV_move rfl) rfl (wpR_v (OpV_move rfl) rfl ?_))))))
    refine wpR_v (OpV_bin rfl rfl (b_iadd _ (-9223372036854775808) x_17)) rfl ?_
    refine wpR_v (OpV_bin rfl rfl (b_iquo _ (wI ((-9223372036854775808) + x_17)) 10 (by decide))) rfl ?_
    refine wpR_v (OpV_bin rfl rfl (b_ilss _ x_11 (wI (Int.tdiv (wI ((-9223372036854775808) + x_17)) 10)))) rfl ?_
    refine wpR_nil (QE_then_n ?_)
    refine wpC_cond rfl (fun hb_19 => ?_) (fun hb_19 => ?_)
    ·have h := if_t h hb_19
     refine wpC_seq (wpC_region (wpR_v (OpV_assign rfl) rfl (wpR_v (OpV_assign rfl) rfl (wpR_nil (QE_then_n (wpC_ret ?_))))))
     refine QE_then_r (QE_blk_r ?_)
     refine QE_then_r (QE_then_r ?_)
     have h := oinr_some h hk_13
     refine QE_blk_r ?_
     refine QE_then_r ?_
     cases h
     exact QE_ret2 rfl rfl rfl ⟨rfl, hS.pick [] (by decide) rfl⟩
    ·have h := if_f h hb_19
     refine wpC_skip (QE_then_n (wpC_region (wpR_v (OpV_move rfl) rfl (wpR_v (OpV_bin rfl rfl (b_imul _ 10 x_11)) rfl ?_))))
     refine wpR_v (OpV_move rfl) rfl (wpR_v (OpV_bin rfl rfl (b_isub _ (wI (10 * x_11)) x_17)) rfl ?_)
     obtain ⟨x_18, hx_18, h⟩ := olet_some h
     refine wpR_v (OpV_assign (v := vI x_18) (by rw [← hx_18]; rfl)) rfl ?_
     refine wpR_nil (QE_blk_n ?_)
     refine QE_then_n (wpC_region (wpR_v (OpV_move rfl) rfl (wpR_v (OpV_bin rfl rfl (b_iadd _ x_12 1)) rfl ?_)))
     refine wpR_v (OpV_assign rfl) rfl (wpR_nil ?_)
     exact QE_rnd (wpN_le _ (by exact ⟨rfl, rfl, rfl, trivial⟩) (ih_14 (x_18, wI (x_12 + 1)) _ _ ⟨rfl, hS⟩ (oinl_some h hk_13)))
   ·have h := if_f h hb_22
    refine wpC_exit ?_
    refine QE_then_x (QE_then_x ?_)
    have h := oinr_some h hk_13
    refine QE_blk_x ?_
    refine QE_then_n (wpC_seq (wpC_seq (wpC_region (wpR_v (OpV_fieldB (k := 0) Tryd.underlying146 rfl rfl nz4 rfl) rfl ?_))))
    refine wpR_v (OpV_ldB Tryd.underlying4 rfl rfl (hS.bxc 0 rfl 0)) rfl ?_
    refine wpR_nil (QE_then_n ?_)
    refine wpC_cond rfl (fun hb_21 => ?_) (fun hb_21 => ?_)
    ·have h := if_t h hb_21
     refine wpC_seq (wpC_region (wpR_v (OpV_move rfl) rfl (wpR_v (OpV_assign rfl) rfl (wpR_v (OpV_assign rfl) rfl (wpR_nil (QE_then_n ?_))))))
     refine wpC_ret (QE_then_r ?_)
     cases h
     exact QE_ret2 rfl rfl rfl ⟨rfl, hS.pick [] (by decide) rfl⟩
    ·have h := if_f h hb_21
     refine wpC_skip (QE_then_n (wpC_seq (wpC_seq (wpC_region (wpR_v (OpV_move rfl) rfl (wpR_v (OpV_bin rfl rfl (b_ieql _ x_11 (-9223372036854775808))) rfl ?_))))))
     refine wpR_nil (QE_then_n ?_)
     refine wpC_cond rfl (fun hb_20 => ?_) (fun hb_20 => ?_)
     ·have h := if_t h hb_20
      refine wpC_seq (wpC_region (wpR_v (OpV_assign rfl) rfl (wpR_v (OpV_assign rfl) rfl (wpR_nil (QE_then_n (wpC_ret ?_))))))
      refine QE_then_r ?_
      cases h
      exact QE_ret2 rfl rfl rfl ⟨rfl, hS.pick [] (by decide) rfl⟩
     ·have h := if_f h hb_20
      refine wpC_skip (QE_then_n (wpC_seq (wpC_region (wpR_v (OpV_move rfl) rfl (wpR_v (OpV_un rfl (u_ineg x_11)) rfl ?_)))))
      refine wpR_v (OpV_assign rfl) rfl (wpR_v (OpV_assign rfl) rfl (wpR_nil (QE_then_n (wpC_ret ?_))))
      cases h
      exact QE_ret2 rfl rfl rfl ⟨rfl, hS.pick [] (by decide) rfl⟩
 ·intro hK_10
  refine wpC_region (wpR_v (OpV_move rfl) rfl (wpR_v (OpV_un rfl (u_not x_1.2.2.2.2.2.2.2)) rfl ?_))
  refine wpR_v (OpV_move rfl) rfl ?_
  cases hb_8 : (!x_1.2.2.2.2.2.2.2)
  case true =>
   have h := if_t h hb_8
   try simp only [hb_8]
   refine wpR_gskip (b := true) (t := 16) rfl rfl rfl rfl ?_
   refine wpR_gskip (b := true) (t := 16) rfl rfl rfl rfl ?_
   refine wpR_gskip (b := true) (t := 16) rfl rfl rfl rfl ?_
   refine wpR_v (OpV_pickT rfl rfl) rfl (wpR_nil (QE_then_n ?_))
   exact wpC_le _ (by exact ⟨rfl, rfl, trivial⟩) (hK_10 true _ _ ⟨rfl, hS⟩ h)
  case false =>
   have h := if_f h hb_8
   try simp only [hb_8]
   refine wpR_gv (t := 16) rfl rfl (OpV_fieldB (k := 5) Tryd.underlying146 rfl rfl nz4 rfl) rfl ?_
   refine wpR_gv (t := 16) rfl rfl (OpV_ldB Tryd.underlying4 rfl rfl (hS.bxc 0 rfl 5)) rfl ?_
   refine wpR_gv (t := 16) rfl rfl (OpV_un rfl (u_not x_1.2.2.2.2.2.1)) rfl ?_
   refine wpR_v (OpV_pickF rfl rfl) rfl (wpR_nil (QE_then_n ?_))
   exact wpC_le _ (by exact ⟨rfl, rfl, trivial⟩) (hK_10 (!x_1.2.2.2.2.2.1) _ _ ⟨rfl, hS⟩ h)
theorem c_ref2_Valid (w0 : World) (a0 : List UInt8)   (r : Bool)
  (h : F.ref2_Valid a0 = some r) : Calls Tryd.prog 85 #[vS a0] w0 (Ret fun v w => v = vB r ∧ St [] w0 w []) := by
 refine calls_at 11 Tryd.func85 rfl rfl rfl ?_
 have hS := St.start w0
 refine wpC_le [(0, vS a0)] ⟨rfl, trivial⟩ ?_
 unfold F.ref2_Valid at h
 refine wpC_seq (wpC_region (wpR_v (OpV_assign rfl) rfl (wpR_nil (QE_then_n (wpC_seq (wpC_region ?_))))))
 refine wpR_v (OpV_move rfl) rfl ?_
 obtain ⟨x_1, hx_1, h⟩ := obind_some h
 refine wpR_call (by kernel_rfl) rfl (c_ref2_Read _ a0    _ hx_1) rfl ?_
 rintro _ w ⟨v_2, v_4, rfl, hS1⟩
 have hS := hS.call hS1
 simp only [List.cons_append, List.nil_append] at hS
 refine wpR_v (OpV_move rfl) rfl (wpR_v (OpV_extract rfl rfl) rfl ?_)
 refine wpR_v (OpV_extract rfl rfl) rfl ?_
 refine wpR_x (OpX_alloc (cs := [vB false, .slice none 0 0, vI 0, vB false, .slice none 0 0, vB false, vS []]) tz146 rfl hS) rfl ?_
 rintro _ w ⟨b_6, rfl, hS⟩
 refine wpR_y (OpY_stB (i := 0) (us := [vB x_1.1, v_2, vI x_1.2.2.1, vB x_1.2.2.2.1, v_4, vB x_1.2.2.2.2.2.1, vS x_1.2.2.2.2.2.2.1]) rfl sz146 rfl rfl rfl ⟨rfl, (hS.ro 1 rfl).one, rfl, rfl, (hS.ro 2 rfl).one, rfl, rfl, trivial⟩ rfl hS) ?_
 intro w hS
 replace hS : St _ w0 w [OE.bx b_6 [vB x_1.1, v_2, vI x_1.2.2.1, vB x_1.2.2.2.1, v_4, vB x_1.2.2.2.2.2.1, vS x_1.2.2.2.2.2.2.1], own eI v_2 x_1.2.1, own eI v_4 x_1.2.2.2.2.1] := hS
 refine wpR_v (OpV_assign rfl) rfl (wpR_nil (QE_then_n (wpC_seq (wpC_region (wpR_v (OpV_move rfl) rfl (wpR_v (OpV_assign rfl) rfl ?_))))))
 refine wpR_nil (QE_then_n (wpC_ret ?_))
 cases h
 exact QE_ret1 rfl rfl ⟨rfl, hS.pick [] (by decide) rfl⟩
end Go.Proofs
