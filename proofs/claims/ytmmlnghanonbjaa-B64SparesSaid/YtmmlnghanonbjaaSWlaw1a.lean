import Derived.Test.YtmmlnghanonbjaaSW0
import Derived.Test.YtmmlnghanonbjaaGkFlaw1
import Derived.Test.YtmmlnghanonbjaaSWb64
import Derived.Test.YtmmlnghanonbjaaSWref1
set_option linter.unusedVariables false
set_option linter.unusedSimpArgs false
set_option linter.unusedVariables false
set_option maxRecDepth 4000
namespace Go.Proofs
open Go Go.RowKit Go.Gk
theorem c_law1_roomy (w0 : World) (a0 : List UInt8) (va0 : Value) (ha0 : RP [] w0 e8 va0 a0) (r : (List UInt8 × Nat))
  (h : F.law1_roomy a0 = some r) : Calls Try.prog 10 #[va0] w0 (Ret fun v w => ∃ u0 : Value, v = slV u0 e8.sz 0 r.2 ∧ r.2 ≤ r.1.length ∧ St [] w0 w [own e8 u0 r.1]) := by
 refine calls_at 27 Try.func10 rfl rfl rfl ?_
 have hS := St.start w0
 refine wpC_le [(0, va0)] ⟨rfl, trivial⟩ ?_
 unfold F.law1_roomy at h
 refine wpC_seq (wpC_region (wpR_v (OpV_assign rfl) rfl (wpR_nil (QE_then_n (wpC_seq (wpC_region ?_))))))
 refine wpR_v (OpV_move rfl) rfl (wpR_v (OpV_len Try.underlying22 rfl (ha0.now hS.fr)) rfl ?_)
 refine wpR_v (OpV_bin rfl rfl (b_iadd _ (a0.length : Int) 9)) rfl ?_
 obtain ⟨x_1, hx_1, h⟩ := obind_some h
 refine wpR_x (G_make (e := e8) Try.underlying22 ti5 rfl rfl rfl hS hx_1) rfl ?_
 rintro v_2 w hS
 refine wpR_v (OpV_assign rfl) rfl (wpR_nil (QE_then_n (wpC_seq (wpC_region (wpR_v (OpV_move rfl) rfl (wpR_v (OpV_move rfl) rfl ?_))))))
 refine wpR_x (G_copy (e := e8) Try.underlying22 ti5 rfl rfl rfl hS (i := 0) rfl (ha0.now hS.fr)) rfl ?_
 rintro v_q w ⟨hv_q, hS⟩
 subst v_q
 obtain ⟨x_4, hx_4, h⟩ := olet_some h
 rw [hx_4] at hS
 refine wpR_nil (QE_then_n (wpC_seq (wpC_seq (wpC_region (wpR_v (OpV_move rfl) rfl (wpR_v (OpV_len Try.underlying22 rfl (ha0.now hS.fr)) rfl ?_))))))
 refine wpR_v (OpV_assign rfl) rfl (wpR_nil (QE_then_n (wpC_block ?_)))
 refine wpC_le [(0, va0), (3, v_2), (4, vI (a0.length : Int))] ⟨rfl, rfl, rfl, trivial⟩ ?_
 refine loop_ind (F.law1_roomy_L1 a0) (fun (s : Int × List UInt8) L w => L = [(0, va0), (3, v_2), (4, vI s.1)] ∧ St [] w0 w [own e8 v_2 s.2]) ?_ ((a0.length : Int), x_4) ⟨rfl, hS⟩ h
 rintro k_14 ⟨x_5, x_6⟩ L w q_9 hI ih_8 h hk_7
 try dsimp only at hI
 obtain ⟨rfl, hS⟩ := hI
 unfold F.law1_roomy_L1 at h
 refine wpC_seq (wpC_seq (wpC_region (wpR_v (OpV_move rfl) rfl (wpR_v (OpV_move rfl) rfl (wpR_v (OpV_len Try.underlying22 rfl (hS.ro 0 rfl)) rfl ?_)))))
 refine wpR_v (OpV_bin rfl rfl (b_ilss _ x_5 (x_6.length : Int))) rfl ?_
 refine wpR_nil (QE_then_n ?_)
 refine wpC_cond rfl (fun hb_13 => ?_) (fun hb_13 => ?_)
 ·have h := if_t h hb_13
  refine wpC_skip (QE_then_n (wpC_seq (wpC_block ?_)))
  refine wpC_region (wpR_v (OpV_move rfl) rfl (wpR_v (OpV_move rfl) rfl ?_))
  obtain ⟨x_10, hx_10, h⟩ := obind_some h
  refine wpR_v (G_ix Try.underlying22 ti5 rfl rfl (hS.ro 0 rfl) hx_10) rfl ?_
  refine wpR_y (G_storeE (t := 165) ti5 rfl rfl hS (i := 0) rfl hx_10 rfl) ?_
  intro w hS
  obtain ⟨x_11, hx_11, h⟩ := olet_some h
  rw [hx_11] at hS
  refine wpR_nil (QE_blk_n ?_)
  refine QE_then_n (wpC_region (wpR_v (OpV_move rfl) rfl (wpR_v (OpV_bin rfl rfl (b_iadd _ x_5 1)) rfl ?_)))
  refine wpR_v (OpV_assign rfl) rfl (wpR_nil ?_)
  exact QE_rnd (wpN_le _ (by exact ⟨rfl, rfl, rfl, trivial⟩) (ih_8 (wI (x_5 + 1), x_11) _ _ ⟨rfl, hS⟩ (oinl_some h hk_7)))
 ·have h := if_f h hb_13
  refine wpC_exit ?_
  refine QE_then_x (QE_then_x ?_)
  have h := oinr_some h hk_7
  refine QE_blk_x ?_
  refine QE_then_n (wpC_seq (wpC_region (wpR_v (OpV_move rfl) rfl (wpR_v (OpV_move rfl) rfl (wpR_v (OpV_len Try.underlying22 rfl (ha0.now hS.fr)) rfl ?_)))))
  obtain ⟨hg_12, h⟩ := grd_some h
  refine wpR_v (G_slh Try.underlying22 ti5 rfl rfl (hS.ro 0 rfl) (tkO_of hg_12)) rfl ?_
  refine wpR_v (OpV_assign rfl) rfl (wpR_nil (QE_then_n (wpC_ret ?_)))
  cases h
  exact QE_ret1 rfl rfl ⟨v_2, rfl, hg_12.2, hS.pick [0] (by decide) rfl⟩
theorem c_law1_same (w0 : World) (a0 : List UInt8) (a1 : List UInt8) (va0 : Value) (va1 : Value) (ha0 : RP [] w0 e8 va0 a0) (ha1 : RP [] w0 e8 va1 a1) (r : Bool)
  (h : F.law1_same a0 a1 = some r) : Calls Try.prog 18 #[va0, va1] w0 (Ret fun v w => v = vB r ∧ St [] w0 w []) := by
 refine calls_at 26 Try.func18 rfl rfl rfl ?_
 have hS := St.start w0
 refine wpC_le [(0, va0), (1, va1)] ⟨rfl, rfl, trivial⟩ ?_
 unfold F.law1_same at h
 refine wpC_seq (wpC_region (wpR_v (OpV_assign rfl) rfl (wpR_nil (QE_then_n (wpC_seq (wpC_seq ?_))))))
 refine wpC_region (wpR_v (OpV_move rfl) rfl (wpR_v (OpV_len Try.underlying22 rfl (ha0.now hS.fr)) rfl ?_))
 refine wpR_v (OpV_move rfl) rfl (wpR_v (OpV_len Try.underlying22 rfl (ha1.now hS.fr)) rfl ?_)
 refine wpR_v (OpV_bin rfl rfl (b_ineq _ (a0.length : Int) (a1.length : Int))) rfl ?_
 refine wpR_nil (QE_then_n ?_)
 refine wpC_cond rfl (fun hb_10 => ?_) (fun hb_10 => ?_)
 ·have h := if_t h hb_10
  refine wpC_seq (wpC_region (wpR_v (OpV_assign rfl) rfl (wpR_nil (QE_then_n (wpC_ret (QE_then_r ?_))))))
  cases h
  exact QE_ret1 rfl rfl ⟨rfl, hS⟩
 ·have h := if_f h hb_10
  refine wpC_skip (QE_then_n (wpC_seq (wpC_seq (wpC_region (wpR_v (OpV_assign rfl) rfl (wpR_nil ?_))))))
  refine QE_then_n (wpC_block ?_)
  refine wpC_le [(0, va0), (1, va1), (5, vI 0)] ⟨rfl, rfl, rfl, trivial⟩ ?_
  refine loop_ind (F.law1_same_L1 a0 a1) (fun (s : Int) L w => L = [(0, va0), (1, va1), (5, vI s)] ∧ St [] w0 w []) ?_ 0 ⟨rfl, hS⟩ h
  rintro k_9 x_1 L w q_4 hI ih_3 h hk_2
  try dsimp only at hI
  obtain ⟨rfl, hS⟩ := hI
  unfold F.law1_same_L1 at h
  refine wpC_seq (wpC_seq (wpC_region (wpR_v (OpV_move rfl) rfl (wpR_v (OpV_move rfl) rfl (wpR_v (OpV_len Try.underlying22 rfl (ha0.now hS.fr)) rfl ?_)))))
  refine wpR_v (OpV_bin rfl rfl (b_ilss _ x_1 (a0.length : Int))) rfl ?_
  refine wpR_nil (QE_then_n ?_)
  refine wpC_cond rfl (fun hb_8 => ?_) (fun hb_8 => ?_)
  ·have h := if_t h hb_8
   refine wpC_skip (QE_then_n (wpC_seq (wpC_block ?_)))
   refine wpC_seq ?_
   refine wpC_regionT (fun w' => St [] w0 w' []) (fun _ => true) hmix (fun _ _ _ hf => hf.2) (fun _ _ hf => hf) (by kernel_rfl) ?_
   have hS := hS.drew
   show lxE _ _ _ _ _ _ _ [0, 1, 2, 3, 4, 5, 6, 7, 8] _ _
   refine lxE_v hS rfl rfl (fun w hF => OpV_move rfl) rfl ?_
   refine lxE_v hS rfl rfl (fun w hF => OpV_move rfl) rfl ?_
   obtain ⟨x_5, hx_5, h⟩ := obind_some h
   refine lxE_v hS rfl rfl (fun w hF => G_ix Try.underlying22 ti5 rfl rfl (ha0.now hF.fr) hx_5) rfl ?_
   refine lxE_v hS rfl rfl (fun w hF => G_load Try.underlying5 rfl rfl (ha0.now hF.fr) hx_5 rfl) rfl ?_
   refine lxE_v hS rfl rfl (fun w hF => OpV_move rfl) rfl ?_
   refine lxE_v hS rfl rfl (fun w hF => OpV_move rfl) rfl ?_
   obtain ⟨x_6, hx_6, h⟩ := obind_some h
   refine lxE_v hS rfl rfl (fun w hF => G_ix Try.underlying22 ti5 rfl rfl (ha1.now hF.fr) hx_6) rfl ?_
   refine lxE_v hS rfl rfl (fun w hF => G_load Try.underlying5 rfl rfl (ha1.now hF.fr) hx_6 rfl) rfl ?_
   refine lxE_v hS rfl rfl (fun w hF => OpV_bin rfl rfl (b_neq8 _ x_5 x_6)) rfl ?_
   refine lxE_nil hS ?_
   refine QE_then_n ?_
   refine wpC_cond rfl (fun hb_7 => ?_) (fun hb_7 => ?_)
   ·have h := if_t h hb_7
    refine wpC_seq (wpC_region (wpR_v (OpV_assign rfl) rfl (wpR_nil (QE_then_n (wpC_ret (QE_blk_r ?_))))))
    refine QE_then_r (QE_then_r ?_)
    have h := oinr_some h hk_2
    refine QE_blk_r ?_
    refine QE_then_r ?_
    cases h
    exact QE_ret1 rfl rfl ⟨rfl, hS⟩
   ·have h := if_f h hb_7
    refine wpC_skip (QE_blk_n ?_)
    refine QE_then_n (wpC_region (wpR_v (OpV_move rfl) rfl (wpR_v (OpV_bin rfl rfl (b_iadd _ x_1 1)) rfl ?_)))
    refine wpR_v (OpV_assign rfl) rfl (wpR_nil ?_)
    exact QE_rnd (wpN_le _ (by exact ⟨rfl, rfl, rfl, trivial⟩) (ih_3 (wI (x_1 + 1)) _ _ ⟨rfl, hS⟩ (oinl_some h hk_2)))
  ·have h := if_f h hb_8
   refine wpC_exit ?_
   refine QE_then_x (QE_then_x ?_)
   have h := oinr_some h hk_2
   refine QE_blk_x ?_
   refine QE_then_n (wpC_seq (wpC_region (wpR_v (OpV_assign rfl) rfl (wpR_nil (QE_then_n (wpC_ret ?_))))))
   cases h
   exact QE_ret1 rfl rfl ⟨rfl, hS⟩
theorem c_law1_awake (w0 : World)    (r : Bool)
  (h : F.law1_awake  = some r) : Calls Try.prog 21 #[] w0 (Ret fun v w => v = vB r ∧ St [] w0 w []) := by
 refine calls_at 55 Try.func21 rfl rfl rfl ?_
 have hS := St.start w0
 refine wpC_le [] trivial ?_
 unfold F.law1_awake at h
 refine wpC_seq (wpC_region (wpR_v (OpV_assign rfl) rfl (wpR_nil (QE_then_n (wpC_seq (wpC_region ?_))))))
 obtain ⟨x_1, hx_1, h⟩ := obind_some h
 refine wpR_call (by kernel_rfl) rfl (c_b64_Decode _ [45, 95, 56]    _ hx_1) rfl ?_
 rintro _ w ⟨v_2, rfl, hS1⟩
 have hS := hS.call hS1
 simp only [List.cons_append, List.nil_append] at hS
 refine wpR_v (OpV_move rfl) rfl (wpR_v (OpV_extract rfl rfl) rfl ?_)
 refine wpR_v (OpV_extract rfl rfl) rfl ?_
 refine wpR_v (OpV_extract rfl rfl) rfl ?_
 refine wpR_v (OpV_assign rfl) rfl (wpR_v (OpV_assign rfl) rfl (wpR_v (OpV_assign rfl) rfl (wpR_nil (QE_then_n (wpC_seq (wpC_region ?_))))))
 obtain ⟨x_4, hx_4, h⟩ := obind_some h
 refine wpR_call (by kernel_rfl) rfl (c_b64_DecodeStd _ [43, 47, 56, 61]    _ hx_4) rfl ?_
 rintro _ w ⟨v_5, rfl, hS1⟩
 have hS := hS.call hS1
 simp only [List.cons_append, List.nil_append] at hS
 refine wpR_v (OpV_move rfl) rfl (wpR_v (OpV_extract rfl rfl) rfl ?_)
 refine wpR_v (OpV_extract rfl rfl) rfl ?_
 refine wpR_v (OpV_extract rfl rfl) rfl ?_
 refine wpR_v (OpV_assign rfl) rfl (wpR_v (OpV_assign rfl) rfl (wpR_v (OpV_assign rfl) rfl (wpR_nil (QE_then_n (wpC_seq (wpC_region ?_))))))
 refine wpR_v (OpV_move rfl) rfl (wpR_v (OpV_bin rfl rfl (b_ieql _ x_1.2.1 0)) rfl ?_)
 refine wpR_v (OpV_move rfl) rfl ?_
 cases hb_7 : (x_1.2.1 == 0)
 case true =>
  have h := if_t h hb_7
  try simp only [hb_7]
  refine wpR_gv (t := 19) rfl rfl (OpV_move rfl) rfl ?_
  refine wpR_gv (t := 19) rfl rfl (OpV_bin rfl rfl (b_ieql _ x_4.2.1 0)) rfl ?_
  refine wpR_v (OpV_pickT rfl rfl) rfl (wpR_v (OpV_move rfl) rfl ?_)
  cases hb_8 : (x_4.2.1 == 0)
  case true =>
   have h := if_t h hb_8
   try simp only [hb_8]
   refine wpR_gv (t := 23) rfl rfl (OpV_move rfl) rfl ?_
   refine wpR_gv (t := 23) rfl rfl (OpV_len Try.underlying22 rfl (hS.ro 1 rfl)) rfl ?_
   refine wpR_gv (t := 23) rfl rfl (OpV_bin rfl rfl (b_ieql _ (x_1.1.length : Int) 2)) rfl ?_
   refine wpR_v (OpV_pickT rfl rfl) rfl (wpR_v (OpV_move rfl) rfl ?_)
   cases hb_9 : ((x_1.1.length : Int) == 2)
   case true =>
    have h := if_t h hb_9
    try simp only [hb_9]
    refine wpR_gv (t := 28) rfl rfl (OpV_move rfl) rfl ?_
    refine wpR_gv (t := 28) rfl rfl (OpV_len Try.underlying22 rfl (hS.ro 0 rfl)) rfl ?_
    refine wpR_gv (t := 28) rfl rfl (OpV_bin rfl rfl (b_ieql _ (x_4.1.length : Int) 2)) rfl ?_
    refine wpR_v (OpV_pickT rfl rfl) rfl (wpR_v (OpV_move rfl) rfl ?_)
    cases hb_10 : ((x_4.1.length : Int) == 2)
    case true =>
     have h := if_t h hb_10
     try simp only [hb_10]
     refine wpR_gv (t := 33) rfl rfl (OpV_move rfl) rfl ?_
     obtain ⟨x_11, hx_11, h⟩ := obind_some h
     refine wpR_gv (t := 33) rfl rfl (G_ix Try.underlying22 ti5 rfl rfl (hS.ro 1 rfl) hx_11) rfl ?_
     refine wpR_gv (t := 33) rfl rfl (G_load Try.underlying5 rfl rfl (hS.ro 1 rfl) hx_11 rfl) rfl ?_
     refine wpR_gv (t := 33) rfl rfl (OpV_bin rfl rfl (b_eql8 _ x_11 251)) rfl ?_
     refine wpR_v (OpV_pickT rfl rfl) rfl (wpR_v (OpV_move rfl) rfl ?_)
     cases hb_12 : (x_11 == 251)
     case true =>
      have h := if_t h hb_12
      try simp only [hb_12]
      refine wpR_gv (t := 39) rfl rfl (OpV_move rfl) rfl ?_
      obtain ⟨x_13, hx_13, h⟩ := obind_some h
      refine wpR_gv (t := 39) rfl rfl (G_ix Try.underlying22 ti5 rfl rfl (hS.ro 0 rfl) hx_13) rfl ?_
      refine wpR_gv (t := 39) rfl rfl (G_load Try.underlying5 rfl rfl (hS.ro 0 rfl) hx_13 rfl) rfl ?_
      refine wpR_gv (t := 39) rfl rfl (OpV_bin rfl rfl (b_eql8 _ x_13 255)) rfl ?_
      refine wpR_v (OpV_pickT rfl rfl) rfl (wpR_v (OpV_move rfl) rfl ?_)
      cases hb_14 : (x_13 == 255)
      case true =>
       have h := if_t h hb_14
       try simp only [hb_14]
       refine wpR_gv (t := 45) rfl rfl (OpV_move rfl) rfl ?_
       obtain ⟨x_15, hx_15, h⟩ := obind_some h
       refine wpR_gcall (t := 45) rfl rfl (by kernel_rfl) rfl (c_b64_Encode _ x_1.1 v_2  (hS.ro 1 rfl).rp _ hx_15) rfl ?_
       rintro _ w ⟨rfl, hS1⟩
       have hS := hS.call hS1
       simp only [List.cons_append, List.nil_append] at hS
       refine wpR_gv (t := 45) rfl rfl (OpV_bin rfl rfl (b_seql _ x_15 [45, 95, 56])) rfl ?_
       refine wpR_v (OpV_pickT rfl rfl) rfl (wpR_v (OpV_move rfl) rfl ?_)
       cases hb_16 : (x_15 == [45, 95, 56])
       case true =>
        have h := if_t h hb_16
        try simp only [hb_16]
        refine wpR_gv (t := 50) rfl rfl (OpV_move rfl) rfl ?_
        obtain ⟨x_17, hx_17, h⟩ := obind_some h
        refine wpR_gcall (t := 50) rfl rfl (by kernel_rfl) rfl (c_b64_EncodeStd _ x_1.1 v_2  (hS.ro 1 rfl).rp _ hx_17) rfl ?_
        rintro _ w ⟨rfl, hS1⟩
        have hS := hS.call hS1
        simp only [List.cons_append, List.nil_append] at hS
        refine wpR_gv (t := 50) rfl rfl (OpV_bin rfl rfl (b_seql _ x_17 [43, 47, 56, 61])) rfl ?_
        refine wpR_v (OpV_pickT rfl rfl) rfl (wpR_v (OpV_assign rfl) rfl (wpR_nil (QE_then_n (wpC_ret ?_))))
        cases h
        exact QE_ret1 rfl rfl ⟨rfl, hS.pick [] (by decide) rfl⟩
       case false =>
        have h := if_f h hb_16
        try simp only [hb_16]
        refine wpR_gskip (b := false) (t := 50) rfl rfl rfl rfl ?_
        refine wpR_gskip (b := false) (t := 50) rfl rfl rfl rfl ?_
        refine wpR_gskip (b := false) (t := 50) rfl rfl rfl rfl ?_
        refine wpR_v (OpV_pickF rfl rfl) rfl (wpR_v (OpV_assign rfl) rfl (wpR_nil (QE_then_n (wpC_ret ?_))))
        cases h
        exact QE_ret1 rfl rfl ⟨rfl, hS.pick [] (by decide) rfl⟩
      case false =>
       have h := if_f h hb_14
       try simp only [hb_14]
       refine wpR_gskip (b := false) (t := 45) rfl rfl rfl rfl ?_
       refine wpR_gskip (b := false) (t := 45) rfl rfl rfl rfl ?_
       refine wpR_gskip (b := false) (t := 45) rfl rfl rfl rfl ?_
       refine wpR_v (OpV_pickF rfl rfl) rfl (wpR_v (OpV_move rfl) rfl (wpR_gskip (b := false) (t := 50) rfl rfl rfl rfl ?_))
       refine wpR_gskip (b := false) (t := 50) rfl rfl rfl rfl ?_
       refine wpR_gskip (b := false) (t := 50) rfl rfl rfl rfl ?_
       refine wpR_v (OpV_pickF rfl rfl) rfl (wpR_v (OpV_assign rfl) rfl (wpR_nil (QE_then_n (wpC_ret ?_))))
       cases h
       exact QE_ret1 rfl rfl ⟨rfl, hS.pick [] (by decide) rfl⟩
     case false =>
      have h := if_f h hb_12
      try simp only [hb_12]
      refine wpR_gskip (b := false) (t := 39) rfl rfl rfl rfl ?_
      refine wpR_gskip (b := false) (t := 39) rfl rfl rfl rfl ?_
      refine wpR_gskip (b := false) (t := 39) rfl rfl rfl rfl ?_
      refine wpR_gskip (b := false) (t := 39) rfl rfl rfl rfl ?_
      refine wpR_v (OpV_pickF rfl rfl) rfl (wpR_v (OpV_move rfl) rfl (wpR_gskip (b := false) (t := 45) rfl rfl rfl rfl ?_))
      refine wpR_gskip (b := false) (t := 45) rfl rfl rfl rfl ?_
      refine wpR_gskip (b := false) (t := 45) rfl rfl rfl rfl ?_
      refine wpR_v (OpV_pickF rfl rfl) rfl (wpR_v (OpV_move rfl) rfl (wpR_gskip (b := false) (t := 50) rfl rfl rfl rfl ?_))
      refine wpR_gskip (b := false) (t := 50) rfl rfl rfl rfl ?_
      refine wpR_gskip (b := false) (t := 50) rfl rfl rfl rfl ?_
      refine wpR_v (OpV_pickF rfl rfl) rfl (wpR_v (OpV_assign rfl) rfl (wpR_nil (QE_then_n (wpC_ret ?_))))
      cases h
      exact QE_ret1 rfl rfl ⟨rfl, hS.pick [] (by decide) rfl⟩
    case false =>
     have h := if_f h hb_10
     try simp only [hb_10]
     refine wpR_gskip (b := false) (t := 33) rfl rfl rfl rfl ?_
     refine wpR_gskip (b := false) (t := 33) rfl rfl rfl rfl ?_
     refine wpR_gskip (b := false) (t := 33) rfl rfl rfl rfl ?_
     refine wpR_gskip (b := false) (t := 33) rfl rfl rfl rfl ?_
     refine wpR_v (OpV_pickF rfl rfl) rfl (wpR_v (OpV_move rfl) rfl (wpR_gskip (b := false) (t := 39) rfl rfl rfl rfl ?_))
     refine wpR_gskip (b := false) (t := 39) rfl rfl rfl rfl ?_
     refine wpR_gskip (b := false) (t := 39) rfl rfl rfl rfl ?_
     refine wpR_gskip (b := false) (t := 39) rfl rfl rfl rfl ?_
     refine wpR_v (OpV_pickF rfl rfl) rfl (wpR_v (OpV_move rfl) rfl (wpR_gskip (b := false) (t := 45) rfl rfl rfl rfl ?_))
     refine wpR_gskip (b := false) (t := 45) rfl rfl rfl rfl ?_
     refine wpR_gskip (b := false) (t := 45) rfl rfl rfl rfl ?_
     refine wpR_v (OpV_pickF rfl rfl) rfl (wpR_v (OpV_move rfl) rfl (wpR_gskip (b := false) (t := 50) rfl rfl rfl rfl ?_))
     refine wpR_gskip (b := false) (t := 50) rfl rfl rfl rfl ?_
     refine wpR_gskip (b := false) (t := 50) rfl rfl rfl rfl ?_
     refine wpR_v (OpV_pickF rfl rfl) rfl (wpR_v (OpV_assign rfl) rfl (wpR_nil (QE_then_n (wpC_ret ?_))))
     cases h
     exact QE_ret1 rfl rfl ⟨rfl, hS.pick [] (by decide) rfl⟩
   case false =>
    have h := if_f h hb_9
    try simp only [hb_9]
    refine wpR_gskip (b := false) (t := 28) rfl rfl rfl rfl ?_
    refine wpR_gskip (b := false) (t := 28) rfl rfl rfl rfl ?_
    refine wpR_gskip (b := false) (t := 28) rfl rfl rfl rfl ?_
    refine wpR_v (OpV_pickF rfl rfl) rfl (wpR_v (OpV_move rfl) rfl (wpR_gskip (b := false) (t := 33) rfl rfl rfl rfl ?_))
    refine wpR_gskip (b := false) (t := 33) rfl rfl rfl rfl ?_
    refine wpR_gskip (b := false) (t := 33) rfl rfl rfl rfl ?_
    refine wpR_gskip (b := false) (t := 33) rfl rfl rfl rfl ?_
    refine wpR_v (OpV_pickF rfl rfl) rfl (wpR_v (OpV_move rfl) rfl (wpR_gskip (b := false) (t := 39) rfl rfl rfl rfl ?_))
    refine wpR_gskip (b := false) (t := 39) rfl rfl rfl rfl ?_
    refine wpR_gskip (b := false) (t := 39) rfl rfl rfl rfl ?_
    refine wpR_gskip (b := false) (t := 39) rfl rfl rfl rfl ?_
    refine wpR_v (OpV_pickF rfl rfl) rfl (wpR_v (OpV_move rfl) rfl (wpR_gskip (b := false) (t := 45) rfl rfl rfl rfl ?_))
    refine wpR_gskip (b := false) (t := 45) rfl rfl rfl rfl ?_
    refine wpR_gskip (b := false) (t := 45) rfl rfl rfl rfl ?_
    refine wpR_v (OpV_pickF rfl rfl) rfl (wpR_v (OpV_move rfl) rfl (wpR_gskip (b := false) (t := 50) rfl rfl rfl rfl ?_))
    refine wpR_gskip (b := false) (t := 50) rfl rfl rfl rfl ?_
    refine wpR_gskip (b := false) (t := 50) rfl rfl rfl rfl ?_
    refine wpR_v (OpV_pickF rfl rfl) rfl (wpR_v (OpV_assign rfl) rfl (wpR_nil (QE_then_n (wpC_ret ?_))))
    cases h
    exact QE_ret1 rfl rfl ⟨rfl, hS.pick [] (by decide) rfl⟩
  case false =>
   have h := if_f h hb_8
   try simp only [hb_8]
   refine wpR_gskip (b := false) (t := 23) rfl rfl rfl rfl ?_
   refine wpR_gskip (b := false) (t := 23) rfl rfl rfl rfl ?_
   refine wpR_gskip (b := false) (t := 23) rfl rfl rfl rfl ?_
   refine wpR_v (OpV_pickF rfl rfl) rfl (wpR_v (OpV_move rfl) rfl (wpR_gskip (b := false) (t := 28) rfl rfl rfl rfl ?_))
   refine wpR_gskip (b := false) (t := 28) rfl rfl rfl rfl ?_
   refine wpR_gskip (b := false) (t := 28) rfl rfl rfl rfl ?_
   refine wpR_v (OpV_pickF rfl rfl) rfl (wpR_v (OpV_move rfl) rfl (wpR_gskip (b := false) (t := 33) rfl rfl rfl rfl ?_))
   refine wpR_gskip (b := false) (t := 33) rfl rfl rfl rfl ?_
   refine wpR_gskip (b := false) (t := 33) rfl rfl rfl rfl ?_
   refine wpR_gskip (b := false) (t := 33) rfl rfl rfl rfl ?_
   refine wpR_v (OpV_pickF rfl rfl) rfl (wpR_v (OpV_move rfl) rfl (wpR_gskip (b := false) (t := 39) rfl rfl rfl rfl ?_))
   refine wpR_gskip (b := false) (t := 39) rfl rfl rfl rfl ?_
   refine wpR_gskip (b := false) (t := 39) rfl rfl rfl rfl ?_
   refine wpR_gskip (b := false) (t := 39) rfl rfl rfl rfl ?_
   refine wpR_v (OpV_pickF rfl rfl) rfl (wpR_v (OpV_move rfl) rfl (wpR_gskip (b := false) (t := 45) rfl rfl rfl rfl ?_))
   refine wpR_gskip (b := false) (t := 45) rfl rfl rfl rfl ?_
   refine wpR_gskip (b := false) (t := 45) rfl rfl rfl rfl ?_
   refine wpR_v (OpV_pickF rfl rfl) rfl (wpR_v (OpV_move rfl) rfl (wpR_gskip (b := false) (t := 50) rfl rfl rfl rfl ?_))
   refine wpR_gskip (b := false) (t := 50) rfl rfl rfl rfl ?_
   refine wpR_gskip (b := false) (t := 50) rfl rfl rfl rfl ?_
   refine wpR_v (OpV_pickF rfl rfl) rfl (wpR_v (OpV_assign rfl) rfl (wpR_nil (QE_then_n (wpC_ret ?_))))
   cases h
   exact QE_ret1 rfl rfl ⟨rfl, hS.pick [] (by decide) rfl⟩
 case false =>
  have h := if_f h hb_7
  try simp only [hb_7]
  refine wpR_gskip (b := false) (t := 19) rfl rfl rfl rfl ?_
  refine wpR_gskip (b := false) (t := 19) rfl rfl rfl rfl ?_
  refine wpR_v (OpV_pickF rfl rfl) rfl (wpR_v (OpV_move rfl) rfl (wpR_gskip (b := false) (t := 23) rfl rfl rfl rfl ?_))
  refine wpR_gskip (b := false) (t := 23) rfl rfl rfl rfl ?_
  refine wpR_gskip (b := false) (t := 23) rfl rfl rfl rfl ?_
  refine wpR_v (OpV_pickF rfl rfl) rfl (wpR_v (OpV_move rfl) rfl (wpR_gskip (b := false) (t := 28) rfl rfl rfl rfl ?_))
  refine wpR_gskip (b := false) (t := 28) rfl rfl rfl rfl ?_
  refine wpR_gskip (b := false) (t := 28) rfl rfl rfl rfl ?_
  refine wpR_v (OpV_pickF rfl rfl) rfl (wpR_v (OpV_move rfl) rfl (wpR_gskip (b := false) (t := 33) rfl rfl rfl rfl ?_))
  refine wpR_gskip (b := false) (t := 33) rfl rfl rfl rfl ?_
  refine wpR_gskip (b := false) (t := 33) rfl rfl rfl rfl ?_
  refine wpR_gskip (b := false) (t := 33) rfl rfl rfl rfl ?_
  refine wpR_v (OpV_pickF rfl rfl) rfl (wpR_v (OpV_move rfl) rfl (wpR_gskip (b := false) (t := 39) rfl rfl rfl rfl ?_))
  refine wpR_gskip (b := false) (t := 39) rfl rfl rfl rfl ?_
  refine wpR_gskip (b := false) (t := 39) rfl rfl rfl rfl ?_
  refine wpR_gskip (b := false) (t := 39) rfl rfl rfl rfl ?_
  refine wpR_v (OpV_pickF rfl rfl) rfl (wpR_v (OpV_move rfl) rfl (wpR_gskip (b := false) (t := 45) rfl rfl rfl rfl ?_))
  refine wpR_gskip (b := false) (t := 45) rfl rfl rfl rfl ?_
  refine wpR_gskip (b := false) (t := 45) rfl rfl rfl rfl ?_
  refine wpR_v (OpV_pickF rfl rfl) rfl (wpR_v (OpV_move rfl) rfl (wpR_gskip (b := false) (t := 50) rfl rfl rfl rfl ?_))
  refine wpR_gskip (b := false) (t := 50) rfl rfl rfl rfl ?_
  refine wpR_gskip (b := false) (t := 50) rfl rfl rfl rfl ?_
  refine wpR_v (OpV_pickF rfl rfl) rfl (wpR_v (OpV_assign rfl) rfl (wpR_nil (QE_then_n (wpC_ret ?_))))
  cases h
  exact QE_ret1 rfl rfl ⟨rfl, hS.pick [] (by decide) rfl⟩
end Go.Proofs
