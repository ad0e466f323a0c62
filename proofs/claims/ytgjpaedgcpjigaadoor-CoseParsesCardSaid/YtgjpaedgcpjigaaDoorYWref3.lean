import Derived.Test.YtgjpaedgcpjigaaDoorYW0
import Derived.Test.YtgjpaedgcpjigaaDoorGkFref3
import Derived.Test.YtgjpaedgcpjigaaDoorYWref2
set_option linter.unusedVariables false
set_option linter.unusedSimpArgs false
set_option linter.unusedVariables false
set_option maxRecDepth 4000
namespace Go.Proofs
open Go Go.RowKit Go.Gk
theorem c_ref3_bounds (w0 : World) (a0 : Int)   (r : Int × Int × Int)
  (h : F.ref3_bounds a0 = some r) : Calls Tryd.prog 88 #[vI a0] w0 (Ret fun v w => v = .tuple #[vI r.1, vI r.2.1, vI r.2.2] ∧ St [] w0 w []) := by
 refine calls_at 30 Tryd.func88 rfl rfl rfl ?_
 have hS := St.start w0
 refine wpC_le [(0, vI a0)] ⟨rfl, trivial⟩ ?_
 unfold F.ref3_bounds at h
 refine wpC_seq (wpC_region (wpR_v (OpV_assign rfl) rfl (wpR_v (OpV_assign rfl) rfl (wpR_v (OpV_assign rfl) rfl (wpR_nil (QE_then_n ?_))))))
 refine wpC_seq (wpC_block ?_)
 refine seq_join (r := r) (fun (g : Bool) L w => L = [(0, vI a0), (5, vB g)] ∧ St [] w0 w []) (F.ref3_bounds_K1 a0) ?_ ?_
 ·rintro x_2 L w hJ h
  try dsimp only at hJ
  obtain ⟨rfl, hS⟩ := hJ
  unfold F.ref3_bounds_K1 at h
  refine wpC_cond rfl (fun hb_10 => ?_) (fun hb_10 => ?_)
  ·have h := if_t h hb_10
   refine wpC_seq (wpC_region (wpR_v (OpV_assign rfl) rfl (wpR_v (OpV_assign rfl) rfl (wpR_v (OpV_assign rfl) rfl (wpR_nil (QE_then_n ?_))))))
   refine wpC_ret (QE_blk_r ?_)
   refine QE_then_r ?_
   cases h
   exact QE_ret3 rfl rfl rfl rfl ⟨rfl, hS⟩
  ·have h := if_f h hb_10
   refine wpC_seq (wpC_region (wpR_v (OpV_move rfl) rfl (wpR_v (OpV_bin rfl rfl (b_ilss _ a0 224)) rfl ?_)))
   refine wpR_v (OpV_assign rfl) rfl (wpR_nil (QE_then_n ?_))
   refine wpC_cond rfl (fun hb_9 => ?_) (fun hb_9 => ?_)
   ·have h := if_t h hb_9
    refine wpC_seq (wpC_region (wpR_v (OpV_assign rfl) rfl (wpR_v (OpV_assign rfl) rfl (wpR_v (OpV_assign rfl) rfl (wpR_nil (QE_then_n ?_))))))
    refine wpC_ret (QE_blk_r ?_)
    refine QE_then_r ?_
    cases h
    exact QE_ret3 rfl rfl rfl rfl ⟨rfl, hS⟩
   ·have h := if_f h hb_9
    refine wpC_seq (wpC_region (wpR_v (OpV_move rfl) rfl (wpR_v (OpV_bin rfl rfl (b_ieql _ a0 224)) rfl ?_)))
    refine wpR_v (OpV_assign rfl) rfl (wpR_nil (QE_then_n ?_))
    refine wpC_cond rfl (fun hb_8 => ?_) (fun hb_8 => ?_)
    ·have h := if_t h hb_8
     refine wpC_seq (wpC_region (wpR_v (OpV_assign rfl) rfl (wpR_v (OpV_assign rfl) rfl (wpR_v (OpV_assign rfl) rfl (wpR_nil (QE_then_n ?_))))))
     refine wpC_ret (QE_blk_r ?_)
     refine QE_then_r ?_
     cases h
     exact QE_ret3 rfl rfl rfl rfl ⟨rfl, hS⟩
    ·have h := if_f h hb_8
     refine wpC_seq (wpC_region (wpR_v (OpV_move rfl) rfl (wpR_v (OpV_bin rfl rfl (b_ieql _ a0 237)) rfl ?_)))
     refine wpR_v (OpV_assign rfl) rfl (wpR_nil (QE_then_n ?_))
     refine wpC_cond rfl (fun hb_7 => ?_) (fun hb_7 => ?_)
     ·have h := if_t h hb_7
      refine wpC_seq (wpC_region (wpR_v (OpV_assign rfl) rfl (wpR_v (OpV_assign rfl) rfl (wpR_v (OpV_assign rfl) rfl (wpR_nil (QE_then_n ?_))))))
      refine wpC_ret (QE_blk_r ?_)
      refine QE_then_r ?_
      cases h
      exact QE_ret3 rfl rfl rfl rfl ⟨rfl, hS⟩
     ·have h := if_f h hb_7
      refine wpC_seq (wpC_region (wpR_v (OpV_move rfl) rfl (wpR_v (OpV_bin rfl rfl (b_ilss _ a0 240)) rfl ?_)))
      refine wpR_v (OpV_assign rfl) rfl (wpR_nil (QE_then_n ?_))
      refine wpC_cond rfl (fun hb_6 => ?_) (fun hb_6 => ?_)
      ·have h := if_t h hb_6
       refine wpC_seq (wpC_region (wpR_v (OpV_assign rfl) rfl (wpR_v (OpV_assign rfl) rfl (wpR_v (OpV_assign rfl) rfl (wpR_nil (QE_then_n ?_))))))
       refine wpC_ret (QE_blk_r ?_)
       refine QE_then_r ?_
       cases h
       exact QE_ret3 rfl rfl rfl rfl ⟨rfl, hS⟩
      ·have h := if_f h hb_6
       refine wpC_seq (wpC_region (wpR_v (OpV_move rfl) rfl (wpR_v (OpV_bin rfl rfl (b_ieql _ a0 240)) rfl ?_)))
       refine wpR_v (OpV_assign rfl) rfl (wpR_nil (QE_then_n ?_))
       refine wpC_cond rfl (fun hb_5 => ?_) (fun hb_5 => ?_)
       ·have h := if_t h hb_5
        refine wpC_seq (wpC_region (wpR_v (OpV_assign rfl) rfl (wpR_v (OpV_assign rfl) rfl (wpR_v (OpV_assign rfl) rfl (wpR_nil (QE_then_n ?_))))))
        refine wpC_ret (QE_blk_r ?_)
        refine QE_then_r ?_
        cases h
        exact QE_ret3 rfl rfl rfl rfl ⟨rfl, hS⟩
       ·have h := if_f h hb_5
        refine wpC_seq (wpC_region (wpR_v (OpV_move rfl) rfl (wpR_v (OpV_bin rfl rfl (b_ieql _ a0 244)) rfl ?_)))
        refine wpR_v (OpV_assign rfl) rfl (wpR_nil (QE_then_n ?_))
        refine wpC_cond rfl (fun hb_4 => ?_) (fun hb_4 => ?_)
        ·have h := if_t h hb_4
         refine wpC_seq (wpC_region (wpR_v (OpV_assign rfl) rfl (wpR_v (OpV_assign rfl) rfl (wpR_v (OpV_assign rfl) rfl (wpR_nil (QE_then_n ?_))))))
         refine wpC_ret (QE_blk_r ?_)
         refine QE_then_r ?_
         cases h
         exact QE_ret3 rfl rfl rfl rfl ⟨rfl, hS⟩
        ·have h := if_f h hb_4
         refine wpC_skip (QE_blk_n ?_)
         refine QE_then_n (wpC_seq (wpC_region (wpR_v (OpV_assign rfl) rfl (wpR_v (OpV_assign rfl) rfl (wpR_v (OpV_assign rfl) rfl (wpR_nil ?_))))))
         refine QE_then_n (wpC_ret ?_)
         cases h
         exact QE_ret3 rfl rfl rfl rfl ⟨rfl, hS⟩
 ·intro hK_3
  refine wpC_region (wpR_v (OpV_move rfl) rfl (wpR_v (OpV_bin rfl rfl (b_ilss _ a0 194)) rfl ?_))
  refine wpR_v (OpV_move rfl) rfl ?_
  cases hb_1 : (decide (a0 < 194))
  case true =>
   have h := if_t h hb_1
   try simp only [hb_1]
   refine wpR_gskip (b := true) (t := 8) rfl rfl rfl rfl ?_
   refine wpR_gskip (b := true) (t := 8) rfl rfl rfl rfl ?_
   refine wpR_v (OpV_pickT rfl rfl) rfl (wpR_v (OpV_assign rfl) rfl (wpR_nil (QE_then_n ?_)))
   exact wpC_le _ (by exact ⟨rfl, rfl, trivial⟩) (hK_3 true _ _ ⟨rfl, hS⟩ h)
  case false =>
   have h := if_f h hb_1
   try simp only [hb_1]
   refine wpR_gv (t := 8) rfl rfl (OpV_move rfl) rfl ?_
   refine wpR_gv (t := 8) rfl rfl (OpV_bin rfl rfl (b_igtr _ a0 244)) rfl ?_
   refine wpR_v (OpV_pickF rfl rfl) rfl (wpR_v (OpV_assign rfl) rfl (wpR_nil (QE_then_n ?_)))
   exact wpC_le _ (by exact ⟨rfl, rfl, trivial⟩) (hK_3 (decide ((244 : Int) < a0)) _ _ ⟨rfl, hS⟩ h)
theorem c_ref3_fault (w0 : World) (a0 : Int) (a1 : Int)   (r : Int × List (Int × (List UInt8) × (List UInt8) × Bool × Int × Int) × List UInt8 × Int × Int)
  (h : F.ref3_fault a0 a1 = some r) : Calls Tryd.prog 89 #[vI a0, vI a1] w0 (Ret fun v w => ∃ u0_1 : Value, v = .agg #[vI r.1, u0_1, vS r.2.2.1, vI r.2.2.2.1, vI r.2.2.2.2] ∧ St [] w0 w [own (eP eI (eP eS (eP eS (eP eB (eP eI eI))))) u0_1 r.2.1]) := by
 refine calls_at 8 Tryd.func89 rfl rfl rfl ?_
 have hS := St.start w0
 refine wpC_le [(0, vI a0), (1, vI a1)] ⟨rfl, rfl, trivial⟩ ?_
 unfold F.ref3_fault at h
 refine wpC_seq (wpC_region (wpR_x (OpX_alloc (cs := [vI 0, .slice none 0 0, vS [], vI 0, vI 0]) tz143 rfl hS) rfl ?_))
 rintro _ w ⟨b_1, rfl, hS⟩
 refine wpR_nil (QE_then_n (wpC_seq (wpC_region (wpR_v (OpV_move rfl) rfl (wpR_v (OpV_move rfl) rfl (wpR_v (OpV_build (vs := [(3, vI a0, [vI a0]), (4, vI a1, [vI a1])]) (cells := [vI 0, .slice none 0 0, vS [], vI a0, vI a1]) rfl lay143 ⟨rfl, rfl, trivial⟩ rfl) rfl ?_))))))
 refine wpR_y (OpY_stB (i := 0) (us := [vI 0, .slice none 0 0, vS [], vI a0, vI a1]) rfl sz143 rfl rfl rfl ⟨rfl, rfl, rfl, rfl, rfl, trivial⟩ rfl hS) ?_
 intro w hS
 replace hS : St _ w0 w [OE.bx b_1 [vI 0, .slice none 0 0, vS [], vI a0, vI a1]] := hS
 refine wpR_nil (QE_then_n (wpC_ret ?_))
 cases h
 exact QE_rv1 rfl ⟨_, rfl, run_ldAgg (us := [vI 0, .slice none 0 0, vS [], vI a0, vI a1]) Tryd.underlying143 rfl sz143 (hS.bxs 0 rfl rfl)⟩ ⟨.slice none 0 0, rfl, (hS.nil (eP eI (eP eS (eP eS (eP eB (eP eI eI)))))).pick [0] (by decide) rfl⟩
theorem c_ref3_byteAt (w0 : World) (a0 : List UInt8) (a1 : Int)   (r : Int)
  (h : F.ref3_byteAt a0 a1 = some r) : Calls Tryd.prog 90 #[vS a0, vI a1] w0 (Ret fun v w => v = vI r ∧ St [] w0 w []) := by
 refine calls_at 13 Tryd.func90 rfl rfl rfl ?_
 have hS := St.start w0
 refine wpC_le [(0, vS a0), (1, vI a1)] ⟨rfl, rfl, trivial⟩ ?_
 unfold F.ref3_byteAt at h
 refine wpC_seq (wpC_region (wpR_v (OpV_assign rfl) rfl (wpR_nil (QE_then_n (wpC_seq (wpC_seq ?_))))))
 refine wpC_region (wpR_v (OpV_move rfl) rfl (wpR_v (OpV_move rfl) rfl (wpR_v (OpV_lenS Tryd.underlying9 rfl) rfl ?_)))
 refine wpR_v (OpV_bin rfl rfl (b_igeq _ a1 (a0.length : Int))) rfl ?_
 refine wpR_nil (QE_then_n ?_)
 refine wpC_cond rfl (fun hb_2 => ?_) (fun hb_2 => ?_)
 ·have h := if_t h hb_2
  refine wpC_seq (wpC_region (wpR_v (OpV_assign rfl) rfl (wpR_nil (QE_then_n (wpC_ret (QE_then_r ?_))))))
  cases h
  exact QE_ret1 rfl rfl ⟨rfl, hS⟩
 ·have h := if_f h hb_2
  refine wpC_skip (QE_then_n (wpC_seq (wpC_region (wpR_v (OpV_move rfl) rfl (wpR_v (OpV_move rfl) rfl ?_)))))
  obtain ⟨x_1, hx_1, h⟩ := obind_some h
  refine wpR_v (G_ixS Tryd.underlying9 rfl rfl hx_1) rfl ?_
  refine wpR_v (OpV_conv rfl (cv_8_i Tryd.underlying5 Tryd.underlying3 x_1)) rfl ?_
  refine wpR_v (OpV_assign rfl) rfl (wpR_nil (QE_then_n (wpC_ret ?_)))
  cases h
  exact QE_ret1 rfl rfl ⟨rfl, hS⟩
theorem c_ref3_sequence (w0 : World) (a0 : List UInt8) (a1 : Int)   (r : Int × List (Int × (List UInt8) × (List UInt8) × Bool × Int × Int) × List UInt8 × Int × Int)
  (h : F.ref3_sequence a0 a1 = some r) : Calls Tryd.prog 86 #[vS a0, vI a1] w0 (Ret fun v w => ∃ u0_1 : Value, v = .agg #[vI r.1, u0_1, vS r.2.2.1, vI r.2.2.2.1, vI r.2.2.2.2] ∧ St [] w0 w [own (eP eI (eP eS (eP eS (eP eB (eP eI eI))))) u0_1 r.2.1]) := by
 refine calls_at 60 Tryd.func86 rfl rfl rfl ?_
 have hS := St.start w0
 refine wpC_le [(0, vS a0), (1, vI a1)] ⟨rfl, rfl, trivial⟩ ?_
 unfold F.ref3_sequence at h
 refine wpC_seq (wpC_region (wpR_x (OpX_alloc (cs := [vI 0, .slice none 0 0, vS [], vI 0, vI 0]) tz143 rfl hS) rfl ?_))
 rintro _ w ⟨b_1, rfl, hS⟩
 refine wpR_nil (QE_then_n (wpC_seq (wpC_region (wpR_v (OpV_move rfl) rfl (wpR_v (OpV_move rfl) rfl ?_)))))
 obtain ⟨x_3, hx_3, h⟩ := obind_some h
 refine wpR_v (G_ixS Tryd.underlying9 rfl rfl hx_3) rfl ?_
 refine wpR_v (OpV_conv rfl (cv_8_i Tryd.underlying5 Tryd.underlying3 x_3)) rfl ?_
 obtain ⟨x_4, hx_4, h⟩ := obind_some h
 refine wpR_call (by kernel_rfl) rfl (c_ref3_bounds _ (x_3.toNat : Int)    _ hx_4) rfl ?_
 rintro _ w ⟨rfl, hS1⟩
 have hS := hS.call hS1
 simp only [List.cons_append, List.nil_append] at hS
 refine wpR_v (OpV_move rfl) rfl (wpR_v (OpV_extract rfl rfl) rfl ?_)
 refine wpR_v (OpV_extract rfl rfl) rfl ?_
 refine wpR_v (OpV_extract rfl rfl) rfl ?_
 refine wpR_v (OpV_assign rfl) rfl (wpR_v (OpV_assign rfl) rfl (wpR_v (OpV_assign rfl) rfl (wpR_nil (QE_then_n (wpC_seq (wpC_seq ?_))))))
 refine wpC_region (wpR_v (OpV_move rfl) rfl (wpR_v (OpV_bin rfl rfl (b_ilss _ x_4.1 0)) rfl ?_))
 refine wpR_nil (QE_then_n ?_)
 refine wpC_cond rfl (fun hb_29 => ?_) (fun hb_29 => ?_)
 ·have h := if_t h hb_29
  refine wpC_seq (wpC_region (wpR_v (OpV_move rfl) rfl ?_))
  obtain ⟨x_5, hx_5, h⟩ := obind_some h
  refine wpR_call (by kernel_rfl) rfl (c_ref3_fault _ 32 a1    _ hx_5) rfl ?_
  rintro _ w ⟨v_6, rfl, hS1⟩
  have hS := hS.call hS1
  simp only [List.cons_append, List.nil_append] at hS
  refine wpR_y (OpY_stB (i := 1) (us := [vI x_5.1, v_6, vS x_5.2.2.1, vI x_5.2.2.2.1, vI x_5.2.2.2.2]) rfl sz143 rfl rfl rfl ⟨rfl, (hS.ro 0 rfl).one, rfl, rfl, rfl, trivial⟩ rfl hS) ?_
  intro w hS
  replace hS : St _ w0 w [own (eP eI (eP eS (eP eS (eP eB (eP eI eI))))) v_6 x_5.2.1, OE.bx b_1 [vI x_5.1, v_6, vS x_5.2.2.1, vI x_5.2.2.2.1, vI x_5.2.2.2.2]] := hS
  refine wpR_nil (QE_then_n (wpC_ret (QE_then_r ?_)))
  cases h
  exact QE_rv1 rfl ⟨_, rfl, run_ldAgg (us := [vI x_5.1, v_6, vS x_5.2.2.1, vI x_5.2.2.2.1, vI x_5.2.2.2.2]) Tryd.underlying143 rfl sz143 (hS.bxs 1 rfl rfl)⟩ ⟨v_6, rfl, hS.pick [0] (by decide) rfl⟩
 ·have h := if_f h hb_29
  refine wpC_skip (QE_then_n (wpC_seq (wpC_seq (wpC_region (wpR_v (OpV_assign rfl) rfl (wpR_nil ?_))))))
  refine QE_then_n (wpC_block ?_)
  refine wpC_le [(0, vS a0), (1, vI a1), (4, pB b_1 0), (5, vI x_4.1), (6, vI x_4.2.1), (7, vI x_4.2.2), (8, vI 1)] ⟨rfl, rfl, rfl, rfl, rfl, rfl, rfl, trivial⟩ ?_
  refine loop_ind (F.ref3_sequence_L1 a0 a1 x_4) (fun (s : Int × Int × Int) L w => L = [(0, vS a0), (1, vI a1), (4, pB b_1 0), (5, vI x_4.1), (6, vI s.1), (7, vI s.2.1), (8, vI s.2.2)] ∧ St [] w0 w [OE.bx b_1 [vI 0, .slice none 0 0, vS [], vI 0, vI 0]]) ?_ (x_4.2.1, x_4.2.2, 1) ⟨rfl, hS⟩ h
  rintro k_28 ⟨x_8, x_9, x_10⟩ L w q_13 hI ih_12 h hk_11
  try dsimp only at hI
  obtain ⟨rfl, hS⟩ := hI
  unfold F.ref3_sequence_L1 at h
  refine wpC_seq (wpC_seq (wpC_region (wpR_v (OpV_move rfl) rfl (wpR_v (OpV_move rfl) rfl (wpR_v (OpV_bin rfl rfl (b_ileq _ x_10 x_4.1)) rfl ?_)))))
  refine wpR_nil (QE_then_n ?_)
  refine wpC_cond rfl (fun hb_27 => ?_) (fun hb_27 => ?_)
  ·have h := if_t h hb_27
   refine wpC_skip (QE_then_n (wpC_seq (wpC_block ?_)))
   refine wpC_seq (wpC_region (wpR_v (OpV_move rfl) rfl (wpR_v (OpV_move rfl) rfl (wpR_v (OpV_move rfl) rfl (wpR_v (OpV_bin rfl rfl (b_iadd _ a1 x_10)) rfl ?_)))))
   obtain ⟨x_14, hx_14, h⟩ := obind_some h
   refine wpR_call (by kernel_rfl) rfl (c_ref3_byteAt _ a0 (wI (a1 + x_10))    _ hx_14) rfl ?_
   rintro _ w ⟨rfl, hS1⟩
   have hS := hS.call hS1
   simp only [List.cons_append, List.nil_append] at hS
   refine wpR_v (OpV_assign rfl) rfl (wpR_nil (QE_then_n (wpC_seq (wpC_seq (wpC_region (wpR_v (OpV_move rfl) rfl ?_))))))
   refine wpR_v (OpV_bin rfl rfl (b_ilss _ x_14 0)) rfl ?_
   refine wpR_nil (QE_then_n ?_)
   refine wpC_cond rfl (fun hb_25 => ?_) (fun hb_25 => ?_)
   ·have h := if_t h hb_25
    refine wpC_seq (wpC_region (wpR_v (OpV_move rfl) rfl (wpR_v (OpV_lenS Tryd.underlying9 rfl) rfl ?_)))
    obtain ⟨x_15, hx_15, h⟩ := obind_some h
    refine wpR_call (by kernel_rfl) rfl (c_ref3_fault _ 31 (a0.length : Int)    _ hx_15) rfl ?_
    rintro _ w ⟨v_16, rfl, hS1⟩
    have hS := hS.call hS1
    simp only [List.cons_append, List.nil_append] at hS
    refine wpR_y (OpY_stB (i := 1) (us := [vI x_15.1, v_16, vS x_15.2.2.1, vI x_15.2.2.2.1, vI x_15.2.2.2.2]) rfl sz143 rfl rfl rfl ⟨rfl, (hS.ro 0 rfl).one, rfl, rfl, rfl, trivial⟩ rfl hS) ?_
    intro w hS
    replace hS : St _ w0 w [own (eP eI (eP eS (eP eS (eP eB (eP eI eI))))) v_16 x_15.2.1, OE.bx b_1 [vI x_15.1, v_16, vS x_15.2.2.1, vI x_15.2.2.2.1, vI x_15.2.2.2.2]] := hS
    refine wpR_nil (QE_then_n (wpC_ret (QE_then_r (QE_blk_r ?_))))
    refine QE_then_r (QE_then_r ?_)
    have h := oinr_some h hk_11
    refine QE_blk_r ?_
    refine QE_then_r ?_
    cases h
    exact QE_rv1 rfl ⟨_, rfl, run_ldAgg (us := [vI x_15.1, v_16, vS x_15.2.2.1, vI x_15.2.2.2.1, vI x_15.2.2.2.2]) Tryd.underlying143 rfl sz143 (hS.bxs 1 rfl rfl)⟩ ⟨v_16, rfl, hS.pick [0] (by decide) rfl⟩
   ·have h := if_f h hb_25
    refine wpC_skip (QE_then_n (wpC_seq ?_))
    refine seq_join (r := q_13) (fun (g : Bool) L w => L = [(0, vS a0), (1, vI a1), (4, pB b_1 0), (5, vI x_4.1), (8, vI x_10), (45, vB g)] ∧ St [] w0 w [OE.bx b_1 [vI 0, .slice none 0 0, vS [], vI 0, vI 0]]) (F.ref3_sequence_K1 a1 x_10) ?_ ?_
    ·rintro x_19 L w hJ h
     try dsimp only at hJ
     obtain ⟨rfl, hS⟩ := hJ
     unfold F.ref3_sequence_K1 at h
     refine wpC_cond rfl (fun hb_24 => ?_) (fun hb_24 => ?_)
     ·have h := if_t h hb_24
      refine wpC_seq (wpC_region (wpR_v (OpV_move rfl) rfl ?_))
      obtain ⟨x_21, hx_21, h⟩ := obind_some h
      refine wpR_call (by kernel_rfl) rfl (c_ref3_fault _ 32 a1    _ hx_21) rfl ?_
      rintro _ w ⟨v_22, rfl, hS1⟩
      have hS := hS.call hS1
      simp only [List.cons_append, List.nil_append] at hS
      refine wpR_y (OpY_stB (i := 1) (us := [vI x_21.1, v_22, vS x_21.2.2.1, vI x_21.2.2.2.1, vI x_21.2.2.2.2]) rfl sz143 rfl rfl rfl ⟨rfl, (hS.ro 0 rfl).one, rfl, rfl, rfl, trivial⟩ rfl hS) ?_
      intro w hS
      replace hS : St _ w0 w [own (eP eI (eP eS (eP eS (eP eB (eP eI eI))))) v_22 x_21.2.1, OE.bx b_1 [vI x_21.1, v_22, vS x_21.2.2.1, vI x_21.2.2.2.1, vI x_21.2.2.2.2]] := hS
      refine wpR_nil (QE_then_n (wpC_ret (QE_then_r (QE_blk_r ?_))))
      refine QE_then_r (QE_then_r ?_)
      have h := oinr_some h hk_11
      refine QE_blk_r ?_
      refine QE_then_r ?_
      cases h
      exact QE_rv1 rfl ⟨_, rfl, run_ldAgg (us := [vI x_21.1, v_22, vS x_21.2.2.1, vI x_21.2.2.2.1, vI x_21.2.2.2.2]) Tryd.underlying143 rfl sz143 (hS.bxs 1 rfl rfl)⟩ ⟨v_22, rfl, hS.pick [0] (by decide) rfl⟩
     ·have h := if_f h hb_24
      refine wpC_skip (QE_then_n (wpC_seq (wpC_region (wpR_v (OpV_assign rfl) rfl (wpR_nil (QE_then_n ?_))))))
      refine wpC_region (wpR_v (OpV_assign rfl) rfl (wpR_nil (QE_blk_n ?_)))
      refine QE_then_n (wpC_region (wpR_v (OpV_move rfl) rfl (wpR_v (OpV_bin rfl rfl (b_iadd _ x_10 1)) rfl ?_)))
      refine wpR_v (OpV_assign rfl) rfl (wpR_nil ?_)
      exact QE_rnd (wpN_le _ (by exact ⟨rfl, rfl, rfl, rfl, rfl, rfl, rfl, trivial⟩) (ih_12 (128, 191, wI (x_10 + 1)) _ _ ⟨rfl, hS⟩ (oinl_some h hk_11)))
    ·intro hK_20
     refine wpC_region (wpR_v (OpV_move rfl) rfl (wpR_v (OpV_move rfl) rfl (wpR_v (OpV_bin rfl rfl (b_ilss _ x_14 x_8)) rfl ?_)))
     refine wpR_v (OpV_move rfl) rfl ?_
     cases hb_18 : (decide (x_14 < x_8))
     case true =>
      have h := if_t h hb_18
      try simp only [hb_18]
      refine wpR_gskip (b := true) (t := 41) rfl rfl rfl rfl ?_
      refine wpR_gskip (b := true) (t := 41) rfl rfl rfl rfl ?_
      refine wpR_gskip (b := true) (t := 41) rfl rfl rfl rfl ?_
      refine wpR_v (OpV_pickT rfl rfl) rfl (wpR_nil (QE_then_n ?_))
      exact wpC_le _ (by exact ⟨rfl, rfl, rfl, rfl, rfl, rfl, trivial⟩) (hK_20 true _ _ ⟨rfl, hS⟩ h)
     case false =>
      have h := if_f h hb_18
      try simp only [hb_18]
      refine wpR_gv (t := 41) rfl rfl (OpV_move rfl) rfl ?_
      refine wpR_gv (t := 41) rfl rfl (OpV_move rfl) rfl ?_
      refine wpR_gv (t := 41) rfl rfl (OpV_bin rfl rfl (b_igtr _ x_14 x_9)) rfl ?_
      refine wpR_v (OpV_pickF rfl rfl) rfl (wpR_nil (QE_then_n ?_))
      exact wpC_le _ (by exact ⟨rfl, rfl, rfl, rfl, rfl, rfl, trivial⟩) (hK_20 (decide (x_9 < x_14)) _ _ ⟨rfl, hS⟩ h)
  ·have h := if_f h hb_27
   refine wpC_exit ?_
   refine QE_then_x (QE_then_x ?_)
   have h := oinr_some h hk_11
   refine QE_blk_x ?_
   refine QE_then_n (wpC_seq (wpC_region (wpR_v (OpV_move rfl) rfl (wpR_v (OpV_move rfl) rfl (wpR_v (OpV_bin rfl rfl (b_iadd _ a1 x_4.1)) rfl ?_)))))
   refine wpR_v (OpV_bin rfl rfl (b_iadd _ (wI (a1 + x_4.1)) 1)) rfl ?_
   refine wpR_v (OpV_move rfl) rfl (wpR_v (OpV_move rfl) rfl (wpR_v (OpV_move rfl) rfl (wpR_v (OpV_move rfl) rfl (wpR_v (OpV_bin rfl rfl (b_iadd _ a1 x_4.1)) rfl ?_))))
   refine wpR_v (OpV_bin rfl rfl (b_iadd _ (wI (a1 + x_4.1)) 1)) rfl ?_
   obtain ⟨x_26, hx_26, h⟩ := obind_some h
   refine wpR_v (G_slS Tryd.underlying9 rfl rfl rfl hx_26) rfl ?_
   refine wpR_v (OpV_build (vs := [(0, vI (wI ((wI (a1 + x_4.1)) + 1)), [vI (wI ((wI (a1 + x_4.1)) + 1))]), (2, vS x_26, [vS x_26])]) (cells := [vI (wI ((wI (a1 + x_4.1)) + 1)), .slice none 0 0, vS x_26, vI 0, vI 0]) rfl lay143 ⟨rfl, rfl, trivial⟩ rfl) rfl ?_
   refine wpR_y (OpY_stB (i := 0) (us := [vI (wI ((wI (a1 + x_4.1)) + 1)), .slice none 0 0, vS x_26, vI 0, vI 0]) rfl sz143 rfl rfl rfl ⟨rfl, rfl, rfl, rfl, rfl, trivial⟩ rfl hS) ?_
   intro w hS
   replace hS : St _ w0 w [OE.bx b_1 [vI (wI ((wI (a1 + x_4.1)) + 1)), .slice none 0 0, vS x_26, vI 0, vI 0]] := hS
   refine wpR_nil (QE_then_n (wpC_ret ?_))
   cases h
   exact QE_rv1 rfl ⟨_, rfl, run_ldAgg (us := [vI (wI ((wI (a1 + x_4.1)) + 1)), .slice none 0 0, vS x_26, vI 0, vI 0]) Tryd.underlying143 rfl sz143 (hS.bxs 0 rfl rfl)⟩ ⟨.slice none 0 0, rfl, (hS.nil (eP eI (eP eS (eP eS (eP eB (eP eI eI)))))).pick [0] (by decide) rfl⟩
theorem c_ref3_utf (w0 : World) (a0 : List UInt8)   (r : Bool)
  (h : F.ref3_utf a0 = some r) : Calls Tryd.prog 81 #[vS a0] w0 (Ret fun v w => v = vB r ∧ St [] w0 w []) := by
 refine calls_at 23 Tryd.func81 rfl rfl rfl ?_
 have hS := St.start w0
 refine wpC_le [(0, vS a0)] ⟨rfl, trivial⟩ ?_
 unfold F.ref3_utf at h
 refine wpC_seq (wpC_region (wpR_v (OpV_assign rfl) rfl (wpR_nil (QE_then_n (wpC_seq (wpC_region ?_))))))
 refine wpR_v (OpV_assign rfl) rfl (wpR_nil (QE_then_n (wpC_seq (wpC_block ?_))))
 refine wpC_le [(0, vS a0), (3, vI 0)] ⟨rfl, rfl, trivial⟩ ?_
 refine loop_ind (F.ref3_utf_L1 a0) (fun (s : Int) L w => L = [(0, vS a0), (3, vI s)] ∧ St [] w0 w []) ?_ 0 ⟨rfl, hS⟩ h
 rintro k_14 x_1 L w q_4 hI ih_3 h hk_2
 try dsimp only at hI
 obtain ⟨rfl, hS⟩ := hI
 unfold F.ref3_utf_L1 at h
 refine wpC_seq (wpC_seq (wpC_region (wpR_v (OpV_move rfl) rfl (wpR_v (OpV_move rfl) rfl (wpR_v (OpV_lenS Tryd.underlying9 rfl) rfl ?_)))))
 refine wpR_v (OpV_bin rfl rfl (b_ilss _ x_1 (a0.length : Int))) rfl ?_
 refine wpR_nil (QE_then_n ?_)
 refine wpC_cond rfl (fun hb_13 => ?_) (fun hb_13 => ?_)
 ·have h := if_t h hb_13
  refine wpC_skip (QE_then_n (wpC_block ?_))
  refine wpC_seq (wpC_seq (wpC_region (wpR_v (OpV_move rfl) rfl (wpR_v (OpV_move rfl) rfl ?_))))
  obtain ⟨x_5, hx_5, h⟩ := obind_some h
  refine wpR_v (G_ixS Tryd.underlying9 rfl rfl hx_5) rfl ?_
  refine wpR_v (OpV_bin rfl rfl (b_lss8 _ x_5 128)) rfl ?_
  refine wpR_nil (QE_then_n ?_)
  refine wpC_cond rfl (fun hb_12 => ?_) (fun hb_12 => ?_)
  ·have h := if_t h hb_12
   refine wpC_seq (wpC_region (wpR_v (OpV_move rfl) rfl (wpR_v (OpV_bin rfl rfl (b_iadd _ x_1 1)) rfl ?_)))
   refine wpR_v (OpV_assign rfl) rfl (wpR_nil (QE_then_n (wpC_exit ?_)))
   refine QE_then_x (QE_blk_x ?_)
   exact QE_rnd (wpN_le _ (by exact ⟨rfl, rfl, trivial⟩) (ih_3 (wI (x_1 + 1)) _ _ ⟨rfl, hS⟩ (oinl_some h hk_2)))
  ·have h := if_f h hb_12
   refine wpC_skip (QE_then_n (wpC_seq (wpC_region (wpR_v (OpV_move rfl) rfl (wpR_v (OpV_move rfl) rfl ?_)))))
   obtain ⟨x_6, hx_6, h⟩ := obind_some h
   refine wpR_call (by kernel_rfl) rfl (c_ref3_sequence _ a0 x_1    _ hx_6) rfl ?_
   rintro _ w ⟨v_7, rfl, hS1⟩
   have hS := hS.call hS1
   simp only [List.cons_append, List.nil_append] at hS
   refine wpR_x (OpX_alloc (cs := [vI 0, .slice none 0 0, vS [], vI 0, vI 0]) tz143 rfl hS) rfl ?_
   rintro _ w ⟨b_9, rfl, hS⟩
   refine wpR_y (OpY_stB (i := 0) (us := [vI x_6.1, v_7, vS x_6.2.2.1, vI x_6.2.2.2.1, vI x_6.2.2.2.2]) rfl sz143 rfl rfl rfl ⟨rfl, (hS.ro 1 rfl).one, rfl, rfl, rfl, trivial⟩ rfl hS) ?_
   intro w hS
   replace hS : St _ w0 w [OE.bx b_9 [vI x_6.1, v_7, vS x_6.2.2.1, vI x_6.2.2.2.1, vI x_6.2.2.2.2], own (eP eI (eP eS (eP eS (eP eB (eP eI eI))))) v_7 x_6.2.1] := hS
   refine wpR_nil (QE_then_n (wpC_seq (wpC_seq (wpC_region (wpR_v (OpV_fieldB (k := 3) Tryd.underlying143 rfl rfl nz30 rfl) rfl ?_)))))
   refine wpR_v (OpV_ldB Tryd.underlying30 rfl rfl (hS.bxc 0 rfl 3)) rfl ?_
   refine wpR_v (OpV_bin rfl rfl (b_ineq _ x_6.2.2.2.1 0)) rfl ?_
   refine wpR_nil (QE_then_n ?_)
   refine wpC_cond rfl (fun hb_11 => ?_) (fun hb_11 => ?_)
   ·have h := if_t h hb_11
    refine wpC_seq (wpC_region (wpR_v (OpV_assign rfl) rfl (wpR_nil (QE_then_n (wpC_ret (QE_then_r ?_))))))
    refine QE_blk_r ?_
    refine QE_then_r ?_
    have h := oinr_some h hk_2
    refine QE_blk_r ?_
    refine QE_then_r ?_
    cases h
    exact QE_ret1 rfl rfl ⟨rfl, hS.pick [] (by decide) rfl⟩
   ·have h := if_f h hb_11
    refine wpC_skip (QE_then_n (wpC_region (wpR_v (OpV_fieldB (k := 0) Tryd.underlying143 rfl rfl nz3 rfl) rfl ?_)))
    refine wpR_v (OpV_ldB Tryd.underlying3 rfl rfl (hS.bxc 0 rfl 0)) rfl ?_
    refine wpR_v (OpV_assign rfl) rfl (wpR_nil (QE_blk_n ?_))
    exact QE_rnd (wpN_le _ (by exact ⟨rfl, rfl, trivial⟩) (ih_3 x_6.1 _ _ ⟨rfl, (hS.pick [] (by decide) rfl)⟩ (oinl_some h hk_2)))
 ·have h := if_f h hb_13
  refine wpC_exit ?_
  refine QE_then_x (QE_then_x ?_)
  have h := oinr_some h hk_2
  refine QE_blk_x ?_
  refine QE_then_n (wpC_seq (wpC_region (wpR_v (OpV_assign rfl) rfl (wpR_nil (QE_then_n (wpC_ret ?_))))))
  cases h
  exact QE_ret1 rfl rfl ⟨rfl, hS⟩
theorem c_ref3_plain (w0 : World) (a0_0 : Int) (a0_1 : List UInt8) (a0_2 : List UInt8) (a0_3 : Bool) (a0_4 : Int) (a0_5 : Int)   (r : Bool)
  (h : F.ref3_plain a0_0 a0_1 a0_2 a0_3 a0_4 a0_5 = some r) : Calls Tryd.prog 80 #[.agg #[vI a0_0, vS a0_1, vS a0_2, vB a0_3, vI a0_4, vI a0_5]] w0 (Ret fun v w => v = vB r ∧ St [] w0 w []) := by
 refine calls_at 73 Tryd.func80 rfl rfl rfl ?_
 have hS := St.start w0
 refine wpC_le [(0, .agg #[vI a0_0, vS a0_1, vS a0_2, vB a0_3, vI a0_4, vI a0_5])] ⟨rfl, trivial⟩ ?_
 unfold F.ref3_plain at h
 refine wpC_seq (wpC_region (wpR_x (OpX_box (cs := [vI a0_0, vS a0_1, vS a0_2, vB a0_3, vI a0_4, vI a0_5]) rfl rfl hS) rfl ?_))
 rintro _ w ⟨b_1, rfl, hS⟩
 refine wpR_v (OpV_assign rfl) rfl (wpR_nil (QE_then_n (wpC_seq (wpC_region (wpR_v (OpV_fieldB (k := 0) Tryd.underlying130 rfl rfl nz128 rfl) rfl ?_)))))
 refine wpR_v (OpV_ldB Tryd.underlying128 rfl rfl (hS.bxc 0 rfl 0)) rfl ?_
 refine wpR_v (OpV_assign rfl) rfl (wpR_nil (QE_then_n (wpC_seq ?_)))
 refine seq_join (r := r) (fun (g : Bool) L w => L = [(1, pB b_1 0), (3, vI a0_0), (29, vB g)] ∧ St [] w0 w [OE.bx b_1 [vI a0_0, vS a0_1, vS a0_2, vB a0_3, vI a0_4, vI a0_5]]) (F.ref3_plain_K1 a0_0 a0_2 a0_3 a0_4) ?_ ?_
 ·rintro x_7 L w hJ h
  try dsimp only at hJ
  obtain ⟨rfl, hS⟩ := hJ
  unfold F.ref3_plain_K1 at h
  refine wpC_cond rfl (fun hb_20 => ?_) (fun hb_20 => ?_)
  ·have h := if_t h hb_20
   refine wpC_seq (wpC_region (wpR_v (OpV_assign rfl) rfl (wpR_nil (QE_then_n (wpC_ret (QE_then_r ?_))))))
   cases h
   exact QE_ret1 rfl rfl ⟨rfl, hS.pick [] (by decide) rfl⟩
  ·have h := if_f h hb_20
   refine wpC_skip (QE_then_n (wpC_seq (wpC_region (wpR_v (OpV_fieldB (k := 2) Tryd.underlying130 rfl rfl nz9 rfl) rfl ?_))))
   refine wpR_v (OpV_ldB Tryd.underlying9 rfl rfl (hS.bxc 0 rfl 2)) rfl ?_
   obtain ⟨x_9, hx_9, h⟩ := obind_some h
   refine wpR_call (by kernel_rfl) rfl (c_ref2_Whole _ a0_2    _ hx_9) rfl ?_
   rintro _ w ⟨rfl, hS1⟩
   have hS := hS.call hS1
   simp only [List.cons_append, List.nil_append] at hS
   refine wpR_v (OpV_move rfl) rfl (wpR_v (OpV_extract rfl rfl) rfl ?_)
   refine wpR_v (OpV_extract rfl rfl) rfl ?_
   refine wpR_v (OpV_assign rfl) rfl (wpR_v (OpV_assign rfl) rfl (wpR_nil (QE_then_n (wpC_seq (wpC_region (wpR_v (OpV_fieldB (k := 2) Tryd.underlying130 rfl rfl nz9 rfl) rfl ?_))))))
   refine wpR_v (OpV_ldB Tryd.underlying9 rfl rfl (hS.bxc 0 rfl 2)) rfl ?_
   obtain ⟨x_10, hx_10, h⟩ := obind_some h
   refine wpR_call (by kernel_rfl) rfl (c_ref2_Valid _ a0_2    _ hx_10) rfl ?_
   rintro _ w ⟨rfl, hS1⟩
   have hS := hS.call hS1
   simp only [List.cons_append, List.nil_append] at hS
   refine wpR_v (OpV_assign rfl) rfl (wpR_nil (QE_then_n (wpC_seq (wpC_region (wpR_v (OpV_fieldB (k := 2) Tryd.underlying130 rfl rfl nz9 rfl) rfl ?_)))))
   refine wpR_v (OpV_ldB Tryd.underlying9 rfl rfl (hS.bxc 0 rfl 2)) rfl ?_
   obtain ⟨x_11, hx_11, h⟩ := obind_some h
   refine wpR_call (by kernel_rfl) rfl (c_ref3_utf _ a0_2    _ hx_11) rfl ?_
   rintro _ w ⟨rfl, hS1⟩
   have hS := hS.call hS1
   simp only [List.cons_append, List.nil_append] at hS
   refine wpR_v (OpV_assign rfl) rfl (wpR_nil (QE_then_n (wpC_seq (wpC_block ?_))))
   refine wpC_seq (wpC_region (wpR_v (OpV_move rfl) rfl (wpR_v (OpV_bin rfl rfl (b_ieql _ a0_0 4)) rfl ?_)))
   refine wpR_v (OpV_assign rfl) rfl (wpR_nil (QE_then_n ?_))
   refine wpC_cond rfl (fun hb_19 => ?_) (fun hb_19 => ?_)
   ·have h := if_t h hb_19
    refine wpC_seq (wpC_region (wpR_v (OpV_move rfl) rfl (wpR_v (OpV_move rfl) rfl ?_)))
    cases hb_12 : x_10
    case true =>
     have h := if_t h hb_12
     try simp only [hb_12]
     refine wpR_gv (t := 46) rfl rfl (OpV_move rfl) rfl ?_
     refine wpR_gv (t := 46) rfl rfl (OpV_fieldB (k := 3) Tryd.underlying130 rfl rfl nz4 rfl) rfl ?_
     refine wpR_gv (t := 46) rfl rfl (OpV_ldB Tryd.underlying4 rfl rfl (hS.bxc 0 rfl 3)) rfl ?_
     refine wpR_gv (t := 46) rfl rfl (OpV_bin rfl rfl (b_beql _ x_9.2 a0_3 Tryd.underlying4 rfl)) rfl ?_
     refine wpR_v (OpV_pickT rfl rfl) rfl (wpR_v (OpV_move rfl) rfl ?_)
     cases hb_13 : (x_9.2 == a0_3)
     case true =>
      have h := if_t h hb_13
      try simp only [hb_13]
      refine wpR_gv (t := 52) rfl rfl (OpV_move rfl) rfl ?_
      refine wpR_gv (t := 52) rfl rfl (OpV_fieldB (k := 4) Tryd.underlying130 rfl rfl nz2 rfl) rfl ?_
      refine wpR_gv (t := 52) rfl rfl (OpV_ldB Tryd.underlying2 rfl rfl (hS.bxc 0 rfl 4)) rfl ?_
      refine wpR_gv (t := 52) rfl rfl (OpV_bin rfl rfl (b_ieql _ x_9.1 a0_4)) rfl ?_
      refine wpR_v (OpV_pickT rfl rfl) rfl (wpR_v (OpV_assign rfl) rfl (wpR_nil (QE_then_n (wpC_ret (QE_blk_r ?_)))))
      refine QE_then_r ?_
      cases h
      exact QE_ret1 rfl rfl ⟨rfl, hS.pick [] (by decide) rfl⟩
     case false =>
      have h := if_f h hb_13
      try simp only [hb_13]
      refine wpR_gskip (b := false) (t := 52) rfl rfl rfl rfl ?_
      refine wpR_gskip (b := false) (t := 52) rfl rfl rfl rfl ?_
      refine wpR_gskip (b := false) (t := 52) rfl rfl rfl rfl ?_
      refine wpR_gskip (b := false) (t := 52) rfl rfl rfl rfl ?_
      refine wpR_v (OpV_pickF rfl rfl) rfl (wpR_v (OpV_assign rfl) rfl (wpR_nil (QE_then_n (wpC_ret (QE_blk_r ?_)))))
      refine QE_then_r ?_
      cases h
      exact QE_ret1 rfl rfl ⟨rfl, hS.pick [] (by decide) rfl⟩
    case false =>
     have h := if_f h hb_12
     try simp only [hb_12]
     refine wpR_gskip (b := false) (t := 46) rfl rfl rfl rfl ?_
     refine wpR_gskip (b := false) (t := 46) rfl rfl rfl rfl ?_
     refine wpR_gskip (b := false) (t := 46) rfl rfl rfl rfl ?_
     refine wpR_gskip (b := false) (t := 46) rfl rfl rfl rfl ?_
     refine wpR_v (OpV_pickF rfl rfl) rfl (wpR_v (OpV_move rfl) rfl (wpR_gskip (b := false) (t := 52) rfl rfl rfl rfl ?_))
     refine wpR_gskip (b := false) (t := 52) rfl rfl rfl rfl ?_
     refine wpR_gskip (b := false) (t := 52) rfl rfl rfl rfl ?_
     refine wpR_gskip (b := false) (t := 52) rfl rfl rfl rfl ?_
     refine wpR_v (OpV_pickF rfl rfl) rfl (wpR_v (OpV_assign rfl) rfl (wpR_nil (QE_then_n (wpC_ret (QE_blk_r ?_)))))
     refine QE_then_r ?_
     cases h
     exact QE_ret1 rfl rfl ⟨rfl, hS.pick [] (by decide) rfl⟩
   ·have h := if_f h hb_19
    refine seq_join (r := r) (fun (g : Bool) L w => L = [(1, pB b_1 0), (3, vI a0_0), (7, vB x_11), (58, vB g)] ∧ St [] w0 w [OE.bx b_1 [vI a0_0, vS a0_1, vS a0_2, vB a0_3, vI a0_4, vI a0_5]]) (F.ref3_plain_K2 a0_0 a0_2 x_11) ?_ ?_
    ·rintro x_15 L w hJ h
     try dsimp only at hJ
     obtain ⟨rfl, hS⟩ := hJ
     unfold F.ref3_plain_K2 at h
     refine wpC_cond rfl (fun hb_18 => ?_) (fun hb_18 => ?_)
     ·have h := if_t h hb_18
      refine wpC_seq (wpC_region (wpR_v (OpV_assign rfl) rfl (wpR_nil (QE_then_n (wpC_ret (QE_blk_r ?_))))))
      refine QE_then_r ?_
      cases h
      exact QE_ret1 rfl rfl ⟨rfl, hS.pick [] (by decide) rfl⟩
     ·have h := if_f h hb_18
      refine wpC_seq (wpC_region (wpR_v (OpV_move rfl) rfl (wpR_v (OpV_bin rfl rfl (b_ieql _ a0_0 5)) rfl ?_)))
      refine wpR_v (OpV_assign rfl) rfl (wpR_nil (QE_then_n ?_))
      refine wpC_cond rfl (fun hb_17 => ?_) (fun hb_17 => ?_)
      ·have h := if_t h hb_17
       refine wpC_seq (wpC_region (wpR_v (OpV_move rfl) rfl (wpR_v (OpV_assign rfl) rfl (wpR_nil (QE_then_n (wpC_ret ?_))))))
       refine QE_blk_r ?_
       refine QE_then_r ?_
       cases h
       exact QE_ret1 rfl rfl ⟨rfl, hS.pick [] (by decide) rfl⟩
      ·have h := if_f h hb_17
       refine wpC_skip (QE_blk_n ?_)
       refine QE_then_n (wpC_seq (wpC_region (wpR_v (OpV_fieldB (k := 2) Tryd.underlying130 rfl rfl nz9 rfl) rfl ?_)))
       refine wpR_v (OpV_ldB Tryd.underlying9 rfl rfl (hS.bxc 0 rfl 2)) rfl ?_
       refine wpR_v (OpV_bin rfl rfl (b_seql _ a0_2 [])) rfl ?_
       refine wpR_v (OpV_assign rfl) rfl (wpR_nil (QE_then_n (wpC_ret ?_)))
       cases h
       exact QE_ret1 rfl rfl ⟨rfl, hS.pick [] (by decide) rfl⟩
    ·intro hK_16
     refine wpC_region (wpR_v (OpV_fieldB (k := 3) Tryd.underlying130 rfl rfl nz4 rfl) rfl ?_)
     refine wpR_v (OpV_ldB Tryd.underlying4 rfl rfl (hS.bxc 0 rfl 3)) rfl ?_
     refine wpR_v (OpV_move rfl) rfl ?_
     cases hb_14 : a0_3
     case true =>
      have h := if_t h hb_14
      try simp only [hb_14]
      refine wpR_gskip (b := true) (t := 61) rfl rfl rfl rfl ?_
      refine wpR_gskip (b := true) (t := 61) rfl rfl rfl rfl ?_
      refine wpR_gskip (b := true) (t := 61) rfl rfl rfl rfl ?_
      refine wpR_v (OpV_pickT rfl rfl) rfl (wpR_v (OpV_assign rfl) rfl (wpR_nil (QE_then_n ?_)))
      exact wpC_le _ (by exact ⟨rfl, rfl, rfl, rfl, trivial⟩) (hK_16 true _ _ ⟨rfl, hS⟩ h)
     case false =>
      have h := if_f h hb_14
      try simp only [hb_14]
      refine wpR_gv (t := 61) rfl rfl (OpV_fieldB (k := 4) Tryd.underlying130 rfl rfl nz2 rfl) rfl ?_
      refine wpR_gv (t := 61) rfl rfl (OpV_ldB Tryd.underlying2 rfl rfl (hS.bxc 0 rfl 4)) rfl ?_
      refine wpR_gv (t := 61) rfl rfl (OpV_bin rfl rfl (b_ineq _ a0_4 0)) rfl ?_
      refine wpR_v (OpV_pickF rfl rfl) rfl (wpR_v (OpV_assign rfl) rfl (wpR_nil (QE_then_n ?_)))
      exact wpC_le _ (by exact ⟨rfl, rfl, rfl, rfl, trivial⟩) (hK_16 (a0_4 != 0) _ _ ⟨rfl, hS⟩ h)
 ·intro hK_8
  refine wpC_region (wpR_v (OpV_move rfl) rfl (wpR_v (OpV_bin rfl rfl (b_ilss _ a0_0 1)) rfl ?_))
  refine wpR_v (OpV_move rfl) rfl ?_
  cases hb_3 : (decide (a0_0 < 1))
  case true =>
   have h := if_t h hb_3
   try simp only [hb_3]
   refine wpR_gskip (b := true) (t := 12) rfl rfl rfl rfl ?_
   refine wpR_gskip (b := true) (t := 12) rfl rfl rfl rfl ?_
   refine wpR_v (OpV_pickT rfl rfl) rfl (wpR_v (OpV_move rfl) rfl (wpR_gskip (b := true) (t := 16) rfl rfl rfl rfl ?_))
   refine wpR_gskip (b := true) (t := 16) rfl rfl rfl rfl ?_
   refine wpR_gskip (b := true) (t := 16) rfl rfl rfl rfl ?_
   refine wpR_v (OpV_pickT rfl rfl) rfl (wpR_v (OpV_move rfl) rfl (wpR_gskip (b := true) (t := 21) rfl rfl rfl rfl ?_))
   refine wpR_gskip (b := true) (t := 21) rfl rfl rfl rfl ?_
   refine wpR_gskip (b := true) (t := 21) rfl rfl rfl rfl ?_
   refine wpR_gskip (b := true) (t := 21) rfl rfl rfl rfl ?_
   refine wpR_gskipU (t := 25) rfl rfl rfl ?_
   refine wpR_gskipU (t := 25) rfl rfl rfl ?_
   refine wpR_gskip (b := true) (t := 21) rfl rfl rfl rfl ?_
   refine wpR_v (OpV_pickT rfl rfl) rfl (wpR_nil (QE_then_n ?_))
   exact wpC_le _ (by exact ⟨rfl, rfl, rfl, trivial⟩) (hK_8 true _ _ ⟨rfl, hS⟩ h)
  case false =>
   have h := if_f h hb_3
   try simp only [hb_3]
   refine wpR_gv (t := 12) rfl rfl (OpV_move rfl) rfl ?_
   refine wpR_gv (t := 12) rfl rfl (OpV_bin rfl rfl (b_igtr _ a0_0 7)) rfl ?_
   refine wpR_v (OpV_pickF rfl rfl) rfl (wpR_v (OpV_move rfl) rfl ?_)
   cases hb_4 : (decide ((7 : Int) < a0_0))
   case true =>
    have h := if_t h hb_4
    try simp only [hb_4]
    refine wpR_gskip (b := true) (t := 16) rfl rfl rfl rfl ?_
    refine wpR_gskip (b := true) (t := 16) rfl rfl rfl rfl ?_
    refine wpR_gskip (b := true) (t := 16) rfl rfl rfl rfl ?_
    refine wpR_v (OpV_pickT rfl rfl) rfl (wpR_v (OpV_move rfl) rfl (wpR_gskip (b := true) (t := 21) rfl rfl rfl rfl ?_))
    refine wpR_gskip (b := true) (t := 21) rfl rfl rfl rfl ?_
    refine wpR_gskip (b := true) (t := 21) rfl rfl rfl rfl ?_
    refine wpR_gskip (b := true) (t := 21) rfl rfl rfl rfl ?_
    refine wpR_gskipU (t := 25) rfl rfl rfl ?_
    refine wpR_gskipU (t := 25) rfl rfl rfl ?_
    refine wpR_gskip (b := true) (t := 21) rfl rfl rfl rfl ?_
    refine wpR_v (OpV_pickT rfl rfl) rfl (wpR_nil (QE_then_n ?_))
    exact wpC_le _ (by exact ⟨rfl, rfl, rfl, trivial⟩) (hK_8 true _ _ ⟨rfl, hS⟩ h)
   case false =>
    have h := if_f h hb_4
    try simp only [hb_4]
    refine wpR_gv (t := 16) rfl rfl (OpV_fieldB (k := 5) Tryd.underlying130 rfl rfl nz3 rfl) rfl ?_
    refine wpR_gv (t := 16) rfl rfl (OpV_ldB Tryd.underlying3 rfl rfl (hS.bxc 0 rfl 5)) rfl ?_
    refine wpR_gv (t := 16) rfl rfl (OpV_bin rfl rfl (b_ilss _ a0_5 0)) rfl ?_
    refine wpR_v (OpV_pickF rfl rfl) rfl (wpR_v (OpV_move rfl) rfl ?_)
    cases hb_5 : (decide (a0_5 < 0))
    case true =>
     have h := if_t h hb_5
     try simp only [hb_5]
     refine wpR_gskip (b := true) (t := 21) rfl rfl rfl rfl ?_
     refine wpR_gskip (b := true) (t := 21) rfl rfl rfl rfl ?_
     refine wpR_gskip (b := true) (t := 21) rfl rfl rfl rfl ?_
     refine wpR_gskip (b := true) (t := 21) rfl rfl rfl rfl ?_
     refine wpR_gskipU (t := 25) rfl rfl rfl ?_
     refine wpR_gskipU (t := 25) rfl rfl rfl ?_
     refine wpR_gskip (b := true) (t := 21) rfl rfl rfl rfl ?_
     refine wpR_v (OpV_pickT rfl rfl) rfl (wpR_nil (QE_then_n ?_))
     exact wpC_le _ (by exact ⟨rfl, rfl, rfl, trivial⟩) (hK_8 true _ _ ⟨rfl, hS⟩ h)
    case false =>
     have h := if_f h hb_5
     try simp only [hb_5]
     refine wpR_gv (t := 21) rfl rfl (OpV_fieldB (k := 5) Tryd.underlying130 rfl rfl nz3 rfl) rfl ?_
     refine wpR_gv (t := 21) rfl rfl (OpV_ldB Tryd.underlying3 rfl rfl (hS.bxc 0 rfl 5)) rfl ?_
     refine wpR_gv (t := 21) rfl rfl (OpV_bin rfl rfl (b_igtr _ a0_5 0)) rfl ?_
     refine wpR_gv (t := 21) rfl rfl (OpV_move rfl) rfl ?_
     cases hb_6 : (decide ((0 : Int) < a0_5))
     case true =>
      have h := if_t h hb_6
      try simp only [hb_6]
      refine wpR_gv (t := 25) rfl rfl (OpV_move rfl) rfl ?_
      refine wpR_gv (t := 25) rfl rfl (OpV_bin rfl rfl (b_ilss _ a0_0 6)) rfl ?_
      refine wpR_gv (t := 21) rfl rfl (OpV_pickT rfl rfl) rfl ?_
      refine wpR_v (OpV_pickF rfl rfl) rfl (wpR_nil (QE_then_n ?_))
      exact wpC_le _ (by exact ⟨rfl, rfl, rfl, trivial⟩) (hK_8 (decide (a0_0 < 6)) _ _ ⟨rfl, hS⟩ h)
     case false =>
      have h := if_f h hb_6
      try simp only [hb_6]
      refine wpR_gskip (b := false) (t := 25) rfl rfl rfl rfl ?_
      refine wpR_gskip (b := false) (t := 25) rfl rfl rfl rfl ?_
      refine wpR_gv (t := 21) rfl rfl (OpV_pickF rfl rfl) rfl ?_
      refine wpR_v (OpV_pickF rfl rfl) rfl (wpR_nil (QE_then_n ?_))
      exact wpC_le _ (by exact ⟨rfl, rfl, rfl, trivial⟩) (hK_8 false _ _ ⟨rfl, hS⟩ h)
theorem c_ref3_among (w0 : World) (a0 : List (List UInt8)) (a1 : List UInt8) (va0 : Value) (ha0 : RP [] w0 eS va0 a0) (r : Bool)
  (h : F.ref3_among a0 a1 = some r) : Calls Tryd.prog 82 #[va0, vS a1] w0 (Ret fun v w => v = vB r ∧ St [] w0 w []) := by
 refine calls_at 18 Tryd.func82 rfl rfl rfl ?_
 have hS := St.start w0
 refine wpC_le [(0, va0), (1, vS a1)] ⟨rfl, rfl, trivial⟩ ?_
 unfold F.ref3_among at h
 refine wpC_seq (wpC_region (wpR_v (OpV_assign rfl) rfl (wpR_nil (QE_then_n (wpC_seq (wpC_seq ?_))))))
 refine wpC_region (wpR_v (OpV_assign rfl) rfl (wpR_nil (QE_then_n (wpC_block ?_))))
 refine wpC_le [(0, va0), (1, vS a1), (5, vI 0)] ⟨rfl, rfl, rfl, trivial⟩ ?_
 refine loop_ind (F.ref3_among_L1 a0 a1) (fun (s : Int) L w => L = [(0, va0), (1, vS a1), (5, vI s)] ∧ St [] w0 w []) ?_ 0 ⟨rfl, hS⟩ h
 rintro k_8 x_1 L w q_4 hI ih_3 h hk_2
 try dsimp only at hI
 obtain ⟨rfl, hS⟩ := hI
 unfold F.ref3_among_L1 at h
 refine wpC_seq (wpC_seq (wpC_region (wpR_v (OpV_move rfl) rfl (wpR_v (OpV_move rfl) rfl (wpR_v (OpV_len Tryd.underlying25 rfl (ha0.now hS.fr)) rfl ?_)))))
 refine wpR_v (OpV_bin rfl rfl (b_ilss _ x_1 (a0.length : Int))) rfl ?_
 refine wpR_nil (QE_then_n ?_)
 refine wpC_cond rfl (fun hb_7 => ?_) (fun hb_7 => ?_)
 ·have h := if_t h hb_7
  refine wpC_skip (QE_then_n (wpC_seq (wpC_block ?_)))
  refine wpC_seq (wpC_region (wpR_v (OpV_move rfl) rfl (wpR_v (OpV_move rfl) rfl ?_)))
  obtain ⟨x_5, hx_5, h⟩ := obind_some h
  refine wpR_v (G_ix Tryd.underlying25 ti9 rfl rfl (ha0.now hS.fr) hx_5) rfl ?_
  refine wpR_v (G_load Tryd.underlying9 rfl rfl (ha0.now hS.fr) hx_5 rfl) rfl ?_
  refine wpR_v (OpV_move rfl) rfl (wpR_v (OpV_bin rfl rfl (b_seql _ x_5 a1)) rfl ?_)
  refine wpR_nil (QE_then_n ?_)
  refine wpC_cond rfl (fun hb_6 => ?_) (fun hb_6 => ?_)
  ·have h := if_t h hb_6
   refine wpC_seq (wpC_region (wpR_v (OpV_assign rfl) rfl (wpR_nil (QE_then_n (wpC_ret (QE_blk_r ?_))))))
   refine QE_then_r (QE_then_r ?_)
   have h := oinr_some h hk_2
   refine QE_blk_r ?_
   refine QE_then_r ?_
   cases h
   exact QE_ret1 rfl rfl ⟨rfl, hS⟩
  ·have h := if_f h hb_6
   refine wpC_skip (QE_blk_n ?_)
   refine QE_then_n (wpC_region (wpR_v (OpV_move rfl) rfl (wpR_v (OpV_bin rfl rfl (b_iadd _ x_1 1)) rfl ?_)))
   refine wpR_v (OpV_assign rfl) rfl (wpR_nil ?_)
   exact QE_rnd (wpN_le _ (by exact ⟨rfl, rfl, rfl, trivial⟩) (ih_3 (wI (x_1 + 1)) _ _ ⟨rfl, hS⟩ (oinl_some h hk_2)))
 ·have h := if_f h hb_7
  refine wpC_exit ?_
  refine QE_then_x (QE_then_x ?_)
  have h := oinr_some h hk_2
  refine QE_blk_x ?_
  refine QE_then_n (wpC_seq (wpC_region (wpR_v (OpV_assign rfl) rfl (wpR_nil (QE_then_n (wpC_ret ?_))))))
  cases h
  exact QE_ret1 rfl rfl ⟨rfl, hS⟩
theorem c_ref3_take_s (rc : (List (Int × (List UInt8) × (List UInt8) × Bool × Int × Int)) → Int → Bool → Int → Option (Int)) (hrc : ∀ (w0 : World) (a0 : List (Int × (List UInt8) × (List UInt8) × Bool × Int × Int)) (a1 : Int) (a2 : Bool) (a3 : Int) (va0 : Value) (ha0 : RP [] w0 (eP eI (eP eS (eP eS (eP eB (eP eI eI))))) va0 a0) (r : Int), rc a0 a1 a2 a3 = some r → Calls Tryd.prog 78 #[va0, vI a1, vB a2, vI a3] w0 (Ret fun v w => v = vI r ∧ St [] w0 w [])) (w0 : World) (a0 : List (Int × (List UInt8) × (List UInt8) × Bool × Int × Int)) (a1 : Int) (a2 : Bool) (a3 : Int) (va0 : Value) (ha0 : RP [] w0 (eP eI (eP eS (eP eS (eP eB (eP eI eI))))) va0 a0) (r : Int)
  (h : F.ref3_take_s rc a0 a1 a2 a3 = some r) : Calls Tryd.prog 78 #[va0, vI a1, vB a2, vI a3] w0 (Ret fun v w => v = vI r ∧ St [] w0 w []) := by
 refine calls_at 95 Tryd.func78 rfl rfl rfl ?_
 have hS := St.start w0
 refine wpC_le [(0, va0), (1, vI a1), (2, vB a2), (3, vI a3)] ⟨rfl, rfl, rfl, rfl, trivial⟩ ?_
 unfold F.ref3_take_s at h
 refine wpC_seq (wpC_region (wpR_v (OpV_assign rfl) rfl (wpR_nil (QE_then_n (wpC_seq (wpC_seq ?_))))))
 refine wpC_region (wpR_v (OpV_move rfl) rfl (wpR_v (OpV_move rfl) rfl (wpR_v (OpV_len Tryd.underlying24 rfl (ha0.now hS.fr)) rfl ?_)))
 refine wpR_v (OpV_bin rfl rfl (b_igeq _ a1 (a0.length : Int))) rfl ?_
 refine wpR_nil (QE_then_n ?_)
 refine wpC_cond rfl (fun hb_39 => ?_) (fun hb_39 => ?_)
 ·have h := if_t h hb_39
  refine wpC_seq (wpC_region (wpR_v (OpV_assign rfl) rfl (wpR_nil (QE_then_n (wpC_ret (QE_then_r ?_))))))
  cases h
  exact QE_ret1 rfl rfl ⟨rfl, hS⟩
 ·have h := if_f h hb_39
  refine wpC_skip (QE_then_n (wpC_seq (wpC_region (wpR_v (OpV_move rfl) rfl (wpR_v (OpV_move rfl) rfl ?_)))))
  obtain ⟨x_1, hx_1, h⟩ := obind_some h
  refine wpR_v (G_ix Tryd.underlying24 ti130 rfl rfl (ha0.now hS.fr) hx_1) rfl ?_
  refine wpR_v (G_loadW Tryd.underlying130 rfl sz130 rfl (ha0.now hS.fr) hx_1) rfl ?_
  refine wpR_x (OpX_alloc (cs := [vI 0, vS [], vS [], vB false, vI 0, vI 0]) tz130 rfl hS) rfl ?_
  rintro _ w ⟨b_2, rfl, hS⟩
  refine wpR_y (OpY_stB (i := 0) (us := [vI x_1.1, vS x_1.2.1, vS x_1.2.2.1, vB x_1.2.2.2.1, vI x_1.2.2.2.2.1, vI x_1.2.2.2.2.2]) rfl sz130 rfl rfl rfl ⟨rfl, rfl, rfl, rfl, rfl, rfl, trivial⟩ rfl hS) ?_
  intro w hS
  replace hS : St _ w0 w [OE.bx b_2 [vI x_1.1, vS x_1.2.1, vS x_1.2.2.1, vB x_1.2.2.2.1, vI x_1.2.2.2.2.1, vI x_1.2.2.2.2.2]] := hS
  refine wpR_nil (QE_then_n (wpC_seq (wpC_region (wpR_v (OpV_ldBs (us := [vI x_1.1, vS x_1.2.1, vS x_1.2.2.1, vB x_1.2.2.2.1, vI x_1.2.2.2.2.1, vI x_1.2.2.2.2.2]) Tryd.underlying130 rfl sz130 rfl (hS.bxs 0 rfl rfl)) rfl ?_))))
  obtain ⟨x_4, hx_4, h⟩ := obind_some h
  refine wpR_call (by kernel_rfl) rfl (c_ref3_plain _ x_1.1 x_1.2.1 x_1.2.2.1 x_1.2.2.2.1 x_1.2.2.2.2.1 x_1.2.2.2.2.2    _ hx_4) rfl ?_
  rintro _ w ⟨rfl, hS1⟩
  have hS := hS.call hS1
  simp only [List.cons_append, List.nil_append] at hS
  refine wpR_v (OpV_assign rfl) rfl (wpR_nil (QE_then_n (wpC_seq (wpC_region (wpR_v (OpV_fieldB (k := 1) Tryd.underlying130 rfl rfl nz9 rfl) rfl ?_)))))
  refine wpR_v (OpV_ldB Tryd.underlying9 rfl rfl (hS.bxc 0 rfl 1)) rfl ?_
  obtain ⟨x_5, hx_5, h⟩ := obind_some h
  refine wpR_call (by kernel_rfl) rfl (c_ref3_utf _ x_1.2.1    _ hx_5) rfl ?_
  rintro _ w ⟨rfl, hS1⟩
  have hS := hS.call hS1
  simp only [List.cons_append, List.nil_append] at hS
  refine wpR_v (OpV_assign rfl) rfl (wpR_nil (QE_then_n (wpC_seq ?_)))
  refine seq_join (r := r) (fun (g : Bool) L w => L = [(0, va0), (1, vI a1), (3, vI a3), (9, pB b_2 0), (52, vB g)] ∧ St [] w0 w [OE.bx b_2 [vI x_1.1, vS x_1.2.1, vS x_1.2.2.1, vB x_1.2.2.2.1, vI x_1.2.2.2.2.1, vI x_1.2.2.2.2.2]]) (F.ref3_take_s_K1 a1 a0 a3 rc x_1) ?_ ?_
  ·rintro x_12 L w hJ h
   try dsimp only at hJ
   obtain ⟨rfl, hS⟩ := hJ
   unfold F.ref3_take_s_K1 at h
   refine wpC_cond rfl (fun hb_38 => ?_) (fun hb_38 => ?_)
   ·have h := if_t h hb_38
    refine wpC_seq (wpC_region (wpR_v (OpV_assign rfl) rfl (wpR_nil (QE_then_n (wpC_ret (QE_then_r ?_))))))
    cases h
    exact QE_ret1 rfl rfl ⟨rfl, hS.pick [] (by decide) rfl⟩
   ·have h := if_f h hb_38
    refine wpC_skip (QE_then_n (wpC_seq (wpC_region (wpR_v (OpV_move rfl) rfl (wpR_v (OpV_bin rfl rfl (b_iadd _ a1 1)) rfl ?_)))))
    refine wpR_v (OpV_assign rfl) rfl (wpR_nil (QE_then_n (wpC_seq (wpC_region (wpR_v (OpV_assign rfl) rfl (wpR_nil ?_))))))
    refine QE_then_n (wpC_seq (wpC_seq (wpC_region (wpR_v (OpV_assign rfl) rfl (wpR_nil (QE_then_n ?_))))))
    refine wpC_block ?_
    refine wpC_le [(0, va0), (3, vI a3), (9, pB b_2 0), (12, vI (wI (a1 + 1))), (13, .slice none 0 0), (14, vI 0)] ⟨rfl, rfl, rfl, rfl, rfl, rfl, trivial⟩ ?_
    refine loop_ind (F.ref3_take_s_L1 a0 a3 rc x_1) (fun (s : Int × List (List UInt8) × Int) L w => ∃ (v_16 : Value), L = [(0, va0), (3, vI a3), (9, pB b_2 0), (12, vI s.1), (13, v_16), (14, vI s.2.2)] ∧ St [] w0 w [own eS v_16 s.2.1, OE.bx b_2 [vI x_1.1, vS x_1.2.1, vS x_1.2.2.1, vB x_1.2.2.2.1, vI x_1.2.2.2.2.1, vI x_1.2.2.2.2.2]]) ?_ (wI (a1 + 1), [], 0) ⟨.slice none 0 0, rfl, (hS.nil eS)⟩ h
    rintro k_37 ⟨x_14, x_15, x_18⟩ L w q_21 hI ih_20 h hk_19
    try dsimp only at hI
    obtain ⟨v_16, rfl, hS⟩ := hI
    unfold F.ref3_take_s_L1 at h
    refine wpC_seq (wpC_seq (wpC_region (wpR_v (OpV_move rfl) rfl (wpR_v (OpV_fieldB (k := 5) Tryd.underlying130 rfl rfl nz3 rfl) rfl ?_))))
    refine wpR_v (OpV_ldB Tryd.underlying3 rfl rfl (hS.bxc 1 rfl 5)) rfl ?_
    refine wpR_v (OpV_bin rfl rfl (b_ilss _ x_18 x_1.2.2.2.2.2)) rfl ?_
    refine wpR_nil (QE_then_n ?_)
    refine wpC_cond rfl (fun hb_36 => ?_) (fun hb_36 => ?_)
    ·have h := if_t h hb_36
     refine wpC_skip (QE_then_n (wpC_seq (wpC_block ?_)))
     refine wpC_seq (wpC_region (wpR_v (OpV_move rfl) rfl (wpR_v (OpV_assign rfl) rfl (wpR_nil (QE_then_n (wpC_seq ?_))))))
     refine wpC_region (wpR_v (OpV_move rfl) rfl (wpR_v (OpV_move rfl) rfl (wpR_v (OpV_fieldB (k := 0) Tryd.underlying130 rfl rfl nz128 rfl) rfl ?_)))
     refine wpR_v (OpV_ldB Tryd.underlying128 rfl rfl (hS.bxc 1 rfl 0)) rfl ?_
     refine wpR_v (OpV_bin rfl rfl (b_ieql _ x_1.1 7)) rfl ?_
     refine wpR_v (OpV_move rfl) rfl (wpR_v (OpV_bin rfl rfl (b_iadd _ a3 1)) rfl ?_)
     obtain ⟨x_22, hx_22, h⟩ := obind_some h
     refine wpR_call (by kernel_rfl) rfl (hrc _ a0 x_14 (x_1.1 == 7) (wI (a3 + 1)) va0  (ha0.now hS.fr).rp _ hx_22) rfl ?_
     rintro _ w ⟨rfl, hS1⟩
     have hS := hS.call hS1
     simp only [List.cons_append, List.nil_append] at hS
     refine wpR_v (OpV_assign rfl) rfl (wpR_nil (QE_then_n (wpC_seq ?_)))
     refine seq_join (r := q_21) (fun (g : Bool) L w => L = [(0, va0), (3, vI a3), (9, pB b_2 0), (12, vI x_22), (13, v_16), (14, vI x_18), (15, vI x_14), (85, vB g)] ∧ St [] w0 w [OE.bx b_2 [vI x_1.1, vS x_1.2.1, vS x_1.2.2.1, vB x_1.2.2.2.1, vI x_1.2.2.2.2.1, vI x_1.2.2.2.2.2], own eS v_16 x_15]) (F.ref3_take_s_K2 a0 x_14 x_15 x_18 x_22) ?_ ?_
     ·rintro x_27 L w hJ h
      try dsimp only at hJ
      obtain ⟨rfl, hS⟩ := hJ
      unfold F.ref3_take_s_K2 at h
      refine wpC_cond rfl (fun hb_35 => ?_) (fun hb_35 => ?_)
      ·have h := if_t h hb_35
       refine wpC_seq (wpC_region (wpR_v (OpV_assign rfl) rfl (wpR_nil (QE_then_n (wpC_ret (QE_then_r ?_))))))
       refine QE_blk_r ?_
       refine QE_then_r (QE_then_r ?_)
       have h := oinr_some h hk_19
       refine QE_blk_r ?_
       refine QE_then_r ?_
       cases h
       exact QE_ret1 rfl rfl ⟨rfl, hS.pick [] (by decide) rfl⟩
      ·have h := if_f h hb_35
       refine wpC_skip (QE_then_n (wpC_region (wpR_v (OpV_move rfl) rfl (wpR_v (OpV_move rfl) rfl (wpR_v (OpV_move rfl) rfl ?_)))))
       obtain ⟨x_29, hx_29, h⟩ := obind_some h
       refine wpR_v (G_ix Tryd.underlying24 ti130 rfl rfl (ha0.now hS.fr) hx_29) rfl ?_
       refine wpR_v (OpV_fieldE (k := 1) Tryd.underlying130 rfl rfl nz9 rfl) rfl ?_
       refine wpR_v (G_loadF Tryd.underlying9 rfl rfl (ha0.now hS.fr) hx_29 rfl rfl) rfl ?_
       refine wpR_x (OpX_lit (e := eS) (l := ([x_29.2.1] : List (List UInt8))) (vs := [vS x_29.2.1]) Tryd.underlying25 ti9 rfl rfl rfl rfl (by decide) (by decide) hS) rfl ?_
       rintro v_30 w hS
       obtain ⟨x_32, hx_32, h⟩ := obind_some h
       refine wpR_x (G_append Tryd.underlying25 ti9 rfl rfl rfl hS (i := 2) rfl (hS.ro 0 rfl) hx_32) rfl ?_
       rintro v_33 w hS
       refine wpR_v (OpV_assign rfl) rfl (wpR_nil (QE_blk_n ?_))
       refine QE_then_n (wpC_region (wpR_v (OpV_move rfl) rfl (wpR_v (OpV_bin rfl rfl (b_iadd _ x_18 1)) rfl ?_)))
       refine wpR_v (OpV_assign rfl) rfl (wpR_nil ?_)
       exact QE_rnd (wpN_le _ (by exact ⟨rfl, rfl, rfl, rfl, rfl, rfl, trivial⟩) (ih_20 (x_22, x_32, wI (x_18 + 1)) _ _ ⟨v_33, rfl, (hS.pick [2, 1] (by decide) rfl)⟩ (oinl_some h hk_19)))
     ·intro hK_28
      refine wpC_region (wpR_v (OpV_move rfl) rfl (wpR_v (OpV_bin rfl rfl (b_ilss _ x_22 0)) rfl ?_))
      refine wpR_v (OpV_move rfl) rfl ?_
      cases hb_23 : (decide (x_22 < 0))
      case true =>
       have h := if_t h hb_23
       try simp only [hb_23]
       refine wpR_gskip (b := true) (t := 72) rfl rfl rfl rfl ?_
       refine wpR_gskip (b := true) (t := 72) rfl rfl rfl rfl ?_
       refine wpR_gskip (b := true) (t := 72) rfl rfl rfl rfl ?_
       refine wpR_gskip (b := true) (t := 72) rfl rfl rfl rfl ?_
       refine wpR_gskipU (t := 76) rfl rfl rfl ?_
       refine wpR_gskipU (t := 76) rfl rfl rfl ?_
       refine wpR_gskipU (t := 76) rfl rfl rfl ?_
       refine wpR_gskipU (t := 76) rfl rfl rfl ?_
       refine wpR_gskipU (t := 76) rfl rfl rfl ?_
       refine wpR_gskipU (t := 76) rfl rfl rfl ?_
       refine wpR_gskipU (t := 76) rfl rfl rfl ?_
       refine wpR_gskip (b := true) (t := 72) rfl rfl rfl rfl ?_
       refine wpR_v (OpV_pickT rfl rfl) rfl (wpR_nil (QE_then_n ?_))
       exact wpC_le _ (by exact ⟨rfl, rfl, rfl, rfl, rfl, rfl, rfl, rfl, trivial⟩) (hK_28 true _ _ ⟨rfl, (hS.pick [1, 0] (by decide) rfl)⟩ h)
      case false =>
       have h := if_f h hb_23
       try simp only [hb_23]
       refine wpR_gv (t := 72) rfl rfl (OpV_fieldB (k := 0) Tryd.underlying130 rfl rfl nz128 rfl) rfl ?_
       refine wpR_gv (t := 72) rfl rfl (OpV_ldB Tryd.underlying128 rfl rfl (hS.bxc 1 rfl 0)) rfl ?_
       refine wpR_gv (t := 72) rfl rfl (OpV_bin rfl rfl (b_ieql _ x_1.1 7)) rfl ?_
       refine wpR_gv (t := 72) rfl rfl (OpV_move rfl) rfl ?_
       cases hb_24 : (x_1.1 == 7)
       case true =>
        have h := if_t h hb_24
        try simp only [hb_24]
        refine wpR_gv (t := 76) rfl rfl (OpV_move rfl) rfl ?_
        refine wpR_gv (t := 76) rfl rfl (OpV_move rfl) rfl ?_
        refine wpR_gv (t := 76) rfl rfl (OpV_move rfl) rfl ?_
        obtain ⟨x_25, hx_25, h⟩ := obind_some h
        refine wpR_gv (t := 76) rfl rfl (G_ix Tryd.underlying24 ti130 rfl rfl (ha0.now hS.fr) hx_25) rfl ?_
        refine wpR_gv (t := 76) rfl rfl (OpV_fieldE (k := 1) Tryd.underlying130 rfl rfl nz9 rfl) rfl ?_
        refine wpR_gv (t := 76) rfl rfl (G_loadF Tryd.underlying9 rfl rfl (ha0.now hS.fr) hx_25 rfl rfl) rfl ?_
        obtain ⟨x_26, hx_26, h⟩ := obind_some h
        refine wpR_gcall (t := 76) rfl rfl (by kernel_rfl) rfl (c_ref3_among _ x_15 x_25.2.1 v_16  (hS.ro 0 rfl).rp _ hx_26) rfl ?_
        rintro _ w ⟨rfl, hS1⟩
        have hS := hS.call hS1
        simp only [List.cons_append, List.nil_append] at hS
        refine wpR_gv (t := 72) rfl rfl (OpV_pickT rfl rfl) rfl ?_
        refine wpR_v (OpV_pickF rfl rfl) rfl (wpR_nil (QE_then_n ?_))
        exact wpC_le _ (by exact ⟨rfl, rfl, rfl, rfl, rfl, rfl, rfl, rfl, trivial⟩) (hK_28 x_26 _ _ ⟨rfl, (hS.pick [1, 0] (by decide) rfl)⟩ h)
       case false =>
        have h := if_f h hb_24
        try simp only [hb_24]
        refine wpR_gskip (b := false) (t := 76) rfl rfl rfl rfl ?_
        refine wpR_gskip (b := false) (t := 76) rfl rfl rfl rfl ?_
        refine wpR_gskip (b := false) (t := 76) rfl rfl rfl rfl ?_
        refine wpR_gskip (b := false) (t := 76) rfl rfl rfl rfl ?_
        refine wpR_gskip (b := false) (t := 76) rfl rfl rfl rfl ?_
        refine wpR_gskip (b := false) (t := 76) rfl rfl rfl rfl ?_
        refine wpR_gskip (b := false) (t := 76) rfl rfl rfl rfl ?_
        refine wpR_gv (t := 72) rfl rfl (OpV_pickF rfl rfl) rfl ?_
        refine wpR_v (OpV_pickF rfl rfl) rfl (wpR_nil (QE_then_n ?_))
        exact wpC_le _ (by exact ⟨rfl, rfl, rfl, rfl, rfl, rfl, rfl, rfl, trivial⟩) (hK_28 false _ _ ⟨rfl, (hS.pick [1, 0] (by decide) rfl)⟩ h)
    ·have h := if_f h hb_36
     refine wpC_exit ?_
     refine QE_then_x (QE_then_x ?_)
     have h := oinr_some h hk_19
     refine QE_blk_x ?_
     refine QE_then_n (wpC_seq (wpC_region (wpR_v (OpV_move rfl) rfl (wpR_v (OpV_assign rfl) rfl (wpR_nil (QE_then_n ?_))))))
     refine wpC_ret ?_
     cases h
     exact QE_ret1 rfl rfl ⟨rfl, hS.pick [] (by decide) rfl⟩
  ·intro hK_13
   refine wpC_region (wpR_v (OpV_move rfl) rfl (wpR_v (OpV_un rfl (u_not x_4)) rfl ?_))
   refine wpR_v (OpV_move rfl) rfl ?_
   cases hb_6 : (!x_4)
   case true =>
    have h := if_t h hb_6
    try simp only [hb_6]
    refine wpR_gskip (b := true) (t := 31) rfl rfl rfl rfl ?_
    refine wpR_gskip (b := true) (t := 31) rfl rfl rfl rfl ?_
    refine wpR_v (OpV_pickT rfl rfl) rfl (wpR_v (OpV_move rfl) rfl (wpR_gskip (b := true) (t := 35) rfl rfl rfl rfl ?_))
    refine wpR_gskip (b := true) (t := 35) rfl rfl rfl rfl ?_
    refine wpR_gskip (b := true) (t := 35) rfl rfl rfl rfl ?_
    refine wpR_gskipU (t := 38) rfl rfl rfl ?_
    refine wpR_gskipU (t := 38) rfl rfl rfl ?_
    refine wpR_gskipU (t := 38) rfl rfl rfl ?_
    refine wpR_gskip (b := true) (t := 35) rfl rfl rfl rfl ?_
    refine wpR_v (OpV_pickT rfl rfl) rfl (wpR_v (OpV_move rfl) rfl (wpR_gskip (b := true) (t := 44) rfl rfl rfl rfl ?_))
    refine wpR_gskip (b := true) (t := 44) rfl rfl rfl rfl ?_
    refine wpR_gskip (b := true) (t := 44) rfl rfl rfl rfl ?_
    refine wpR_gskip (b := true) (t := 44) rfl rfl rfl rfl ?_
    refine wpR_gskipU (t := 48) rfl rfl rfl ?_
    refine wpR_gskipU (t := 48) rfl rfl rfl ?_
    refine wpR_gskip (b := true) (t := 44) rfl rfl rfl rfl ?_
    refine wpR_v (OpV_pickT rfl rfl) rfl (wpR_nil (QE_then_n ?_))
    exact wpC_le _ (by exact ⟨rfl, rfl, rfl, rfl, rfl, trivial⟩) (hK_13 true _ _ ⟨rfl, hS⟩ h)
   case false =>
    have h := if_f h hb_6
    try simp only [hb_6]
    refine wpR_gv (t := 31) rfl rfl (OpV_move rfl) rfl ?_
    refine wpR_gv (t := 31) rfl rfl (OpV_un rfl (u_not x_5)) rfl ?_
    refine wpR_v (OpV_pickF rfl rfl) rfl (wpR_v (OpV_move rfl) rfl ?_)
    cases hb_7 : (!x_5)
    case true =>
     have h := if_t h hb_7
     try simp only [hb_7]
     refine wpR_gskip (b := true) (t := 35) rfl rfl rfl rfl ?_
     refine wpR_gskip (b := true) (t := 35) rfl rfl rfl rfl ?_
     refine wpR_gskip (b := true) (t := 35) rfl rfl rfl rfl ?_
     refine wpR_gskipU (t := 38) rfl rfl rfl ?_
     refine wpR_gskipU (t := 38) rfl rfl rfl ?_
     refine wpR_gskipU (t := 38) rfl rfl rfl ?_
     refine wpR_gskip (b := true) (t := 35) rfl rfl rfl rfl ?_
     refine wpR_v (OpV_pickT rfl rfl) rfl (wpR_v (OpV_move rfl) rfl (wpR_gskip (b := true) (t := 44) rfl rfl rfl rfl ?_))
     refine wpR_gskip (b := true) (t := 44) rfl rfl rfl rfl ?_
     refine wpR_gskip (b := true) (t := 44) rfl rfl rfl rfl ?_
     refine wpR_gskip (b := true) (t := 44) rfl rfl rfl rfl ?_
     refine wpR_gskipU (t := 48) rfl rfl rfl ?_
     refine wpR_gskipU (t := 48) rfl rfl rfl ?_
     refine wpR_gskip (b := true) (t := 44) rfl rfl rfl rfl ?_
     refine wpR_v (OpV_pickT rfl rfl) rfl (wpR_nil (QE_then_n ?_))
     exact wpC_le _ (by exact ⟨rfl, rfl, rfl, rfl, rfl, trivial⟩) (hK_13 true _ _ ⟨rfl, hS⟩ h)
    case false =>
     have h := if_f h hb_7
     try simp only [hb_7]
     refine wpR_gv (t := 35) rfl rfl (OpV_move rfl) rfl ?_
     refine wpR_gv (t := 35) rfl rfl (OpV_un rfl (u_not a2)) rfl ?_
     refine wpR_gv (t := 35) rfl rfl (OpV_move rfl) rfl ?_
     cases hb_8 : (!a2)
     case true =>
      have h := if_t h hb_8
      try simp only [hb_8]
      refine wpR_gv (t := 38) rfl rfl (OpV_fieldB (k := 1) Tryd.underlying130 rfl rfl nz9 rfl) rfl ?_
      refine wpR_gv (t := 38) rfl rfl (OpV_ldB Tryd.underlying9 rfl rfl (hS.bxc 0 rfl 1)) rfl ?_
      refine wpR_gv (t := 38) rfl rfl (OpV_bin rfl rfl (b_sneq _ x_1.2.1 [])) rfl ?_
      refine wpR_gv (t := 35) rfl rfl (OpV_pickT rfl rfl) rfl ?_
      refine wpR_v (OpV_pickF rfl rfl) rfl (wpR_v (OpV_move rfl) rfl ?_)
      cases hb_9 : (x_1.2.1 != [])
      case true =>
       have h := if_t h hb_9
       try simp only [hb_9]
       refine wpR_gskip (b := true) (t := 44) rfl rfl rfl rfl ?_
       refine wpR_gskip (b := true) (t := 44) rfl rfl rfl rfl ?_
       refine wpR_gskip (b := true) (t := 44) rfl rfl rfl rfl ?_
       refine wpR_gskip (b := true) (t := 44) rfl rfl rfl rfl ?_
       refine wpR_gskipU (t := 48) rfl rfl rfl ?_
       refine wpR_gskipU (t := 48) rfl rfl rfl ?_
       refine wpR_gskip (b := true) (t := 44) rfl rfl rfl rfl ?_
       refine wpR_v (OpV_pickT rfl rfl) rfl (wpR_nil (QE_then_n ?_))
       exact wpC_le _ (by exact ⟨rfl, rfl, rfl, rfl, rfl, trivial⟩) (hK_13 true _ _ ⟨rfl, hS⟩ h)
      case false =>
       have h := if_f h hb_9
       try simp only [hb_9]
       refine wpR_gv (t := 44) rfl rfl (OpV_fieldB (k := 0) Tryd.underlying130 rfl rfl nz128 rfl) rfl ?_
       refine wpR_gv (t := 44) rfl rfl (OpV_ldB Tryd.underlying128 rfl rfl (hS.bxc 0 rfl 0)) rfl ?_
       refine wpR_gv (t := 44) rfl rfl (OpV_bin rfl rfl (b_igeq _ x_1.1 6)) rfl ?_
       refine wpR_gv (t := 44) rfl rfl (OpV_move rfl) rfl ?_
       cases hb_10 : (decide ((6 : Int) ≤ x_1.1))
       case true =>
        have h := if_t h hb_10
        try simp only [hb_10]
        refine wpR_gv (t := 48) rfl rfl (OpV_move rfl) rfl ?_
        refine wpR_gv (t := 48) rfl rfl (OpV_bin rfl rfl (b_ieql _ a3 32)) rfl ?_
        refine wpR_gv (t := 44) rfl rfl (OpV_pickT rfl rfl) rfl ?_
        refine wpR_v (OpV_pickF rfl rfl) rfl (wpR_nil (QE_then_n ?_))
        exact wpC_le _ (by exact ⟨rfl, rfl, rfl, rfl, rfl, trivial⟩) (hK_13 (a3 == 32) _ _ ⟨rfl, hS⟩ h)
       case false =>
        have h := if_f h hb_10
        try simp only [hb_10]
        refine wpR_gskip (b := false) (t := 48) rfl rfl rfl rfl ?_
        refine wpR_gskip (b := false) (t := 48) rfl rfl rfl rfl ?_
        refine wpR_gv (t := 44) rfl rfl (OpV_pickF rfl rfl) rfl ?_
        refine wpR_v (OpV_pickF rfl rfl) rfl (wpR_nil (QE_then_n ?_))
        exact wpC_le _ (by exact ⟨rfl, rfl, rfl, rfl, rfl, trivial⟩) (hK_13 false _ _ ⟨rfl, hS⟩ h)
     case false =>
      have h := if_f h hb_8
      try simp only [hb_8]
      refine wpR_gskip (b := false) (t := 38) rfl rfl rfl rfl ?_
      refine wpR_gskip (b := false) (t := 38) rfl rfl rfl rfl ?_
      refine wpR_gskip (b := false) (t := 38) rfl rfl rfl rfl ?_
      refine wpR_gv (t := 35) rfl rfl (OpV_pickF rfl rfl) rfl ?_
      refine wpR_v (OpV_pickF rfl rfl) rfl (wpR_v (OpV_move rfl) rfl (wpR_gv (t := 44) rfl rfl (OpV_fieldB (k := 0) Tryd.underlying130 rfl rfl nz128 rfl) rfl ?_))
      refine wpR_gv (t := 44) rfl rfl (OpV_ldB Tryd.underlying128 rfl rfl (hS.bxc 0 rfl 0)) rfl ?_
      refine wpR_gv (t := 44) rfl rfl (OpV_bin rfl rfl (b_igeq _ x_1.1 6)) rfl ?_
      refine wpR_gv (t := 44) rfl rfl (OpV_move rfl) rfl ?_
      cases hb_11 : (decide ((6 : Int) ≤ x_1.1))
      case true =>
       have h := if_t h hb_11
       try simp only [hb_11]
       refine wpR_gv (t := 48) rfl rfl (OpV_move rfl) rfl ?_
       refine wpR_gv (t := 48) rfl rfl (OpV_bin rfl rfl (b_ieql _ a3 32)) rfl ?_
       refine wpR_gv (t := 44) rfl rfl (OpV_pickT rfl rfl) rfl ?_
       refine wpR_v (OpV_pickF rfl rfl) rfl (wpR_nil (QE_then_n ?_))
       exact wpC_le _ (by exact ⟨rfl, rfl, rfl, rfl, rfl, trivial⟩) (hK_13 (a3 == 32) _ _ ⟨rfl, hS⟩ h)
      case false =>
       have h := if_f h hb_11
       try simp only [hb_11]
       refine wpR_gskip (b := false) (t := 48) rfl rfl rfl rfl ?_
       refine wpR_gskip (b := false) (t := 48) rfl rfl rfl rfl ?_
       refine wpR_gv (t := 44) rfl rfl (OpV_pickF rfl rfl) rfl ?_
       refine wpR_v (OpV_pickF rfl rfl) rfl (wpR_nil (QE_then_n ?_))
       exact wpC_le _ (by exact ⟨rfl, rfl, rfl, rfl, rfl, trivial⟩) (hK_13 false _ _ ⟨rfl, hS⟩ h)
theorem c_ref3_take_n (n : Nat) : ∀ (w0 : World) (a0 : List (Int × (List UInt8) × (List UInt8) × Bool × Int × Int)) (a1 : Int) (a2 : Bool) (a3 : Int) (va0 : Value) (ha0 : RP [] w0 (eP eI (eP eS (eP eS (eP eB (eP eI eI))))) va0 a0) (r : Int), F.ref3_take_n n a0 a1 a2 a3 = some r → Calls Tryd.prog 78 #[va0, vI a1, vB a2, vI a3] w0 (Ret fun v w => v = vI r ∧ St [] w0 w []) := by
 induction n with
 | zero => intros; rename_i h; exact absurd h (by simp [F.ref3_take_n])
 | succ n ih => exact c_ref3_take_s (F.ref3_take_n n) ih
theorem c_ref3_take (w0 : World) (a0 : List (Int × (List UInt8) × (List UInt8) × Bool × Int × Int)) (a1 : Int) (a2 : Bool) (a3 : Int) (va0 : Value) (ha0 : RP [] w0 (eP eI (eP eS (eP eS (eP eB (eP eI eI))))) va0 a0) (r : Int) (h : F.ref3_take a0 a1 a2 a3 = some r) : Calls Tryd.prog 78 #[va0, vI a1, vB a2, vI a3] w0 (Ret fun v w => v = vI r ∧ St [] w0 w []) := c_ref3_take_n 64 w0 a0 a1 a2 a3 va0 ha0 r h
theorem c_ref3_Shaped (w0 : World) (a0 : List (Int × (List UInt8) × (List UInt8) × Bool × Int × Int)) (va0 : Value) (ha0 : RP [] w0 (eP eI (eP eS (eP eS (eP eB (eP eI eI))))) va0 a0) (r : Bool)
  (h : F.ref3_Shaped a0 = some r) : Calls Tryd.prog 72 #[va0] w0 (Ret fun v w => v = vB r ∧ St [] w0 w []) := by
 refine calls_at 13 Tryd.func72 rfl rfl rfl ?_
 have hS := St.start w0
 refine wpC_le [(0, va0)] ⟨rfl, trivial⟩ ?_
 unfold F.ref3_Shaped at h
 refine wpC_seq (wpC_region (wpR_v (OpV_assign rfl) rfl (wpR_nil (QE_then_n (wpC_seq (wpC_region ?_))))))
 refine wpR_v (OpV_move rfl) rfl (wpR_v (OpV_len Tryd.underlying24 rfl (ha0.now hS.fr)) rfl ?_)
 refine wpR_v (OpV_bin rfl rfl (b_igtr _ (a0.length : Int) 0)) rfl ?_
 refine wpR_v (OpV_move rfl) rfl ?_
 cases hb_1 : (decide ((0 : Int) < (a0.length : Int)))
 case true =>
  have h := if_t h hb_1
  try simp only [hb_1]
  refine wpR_gv (t := 6) rfl rfl (OpV_move rfl) rfl ?_
  obtain ⟨x_2, hx_2, h⟩ := obind_some h
  refine wpR_gcall (t := 6) rfl rfl (by kernel_rfl) rfl (c_ref3_take _ a0 0 false 0 va0  (ha0.now hS.fr).rp _ hx_2) rfl ?_
  rintro _ w ⟨rfl, hS1⟩
  have hS := hS.call hS1
  simp only [List.cons_append, List.nil_append] at hS
  refine wpR_gv (t := 6) rfl rfl (OpV_move rfl) rfl ?_
  refine wpR_gv (t := 6) rfl rfl (OpV_len Tryd.underlying24 rfl (ha0.now hS.fr)) rfl ?_
  refine wpR_gv (t := 6) rfl rfl (OpV_bin rfl rfl (b_ieql _ x_2 (a0.length : Int))) rfl ?_
  refine wpR_v (OpV_pickT rfl rfl) rfl (wpR_v (OpV_assign rfl) rfl (wpR_nil (QE_then_n (wpC_ret ?_))))
  cases h
  exact QE_ret1 rfl rfl ⟨rfl, hS⟩
 case false =>
  have h := if_f h hb_1
  try simp only [hb_1]
  refine wpR_gskip (b := false) (t := 6) rfl rfl rfl rfl ?_
  refine wpR_gskip (b := false) (t := 6) rfl rfl rfl rfl ?_
  refine wpR_gskip (b := false) (t := 6) rfl rfl rfl rfl ?_
  refine wpR_gskip (b := false) (t := 6) rfl rfl rfl rfl ?_
  refine wpR_gskip (b := false) (t := 6) rfl rfl rfl rfl ?_
  refine wpR_v (OpV_pickF rfl rfl) rfl (wpR_v (OpV_assign rfl) rfl (wpR_nil (QE_then_n (wpC_ret ?_))))
  cases h
  exact QE_ret1 rfl rfl ⟨rfl, hS⟩
end Go.Proofs
