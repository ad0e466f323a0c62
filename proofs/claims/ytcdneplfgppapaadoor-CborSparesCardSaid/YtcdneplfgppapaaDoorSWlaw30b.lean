import Derived.Test.YtcdneplfgppapaaDoorSW0
import Derived.Test.YtcdneplfgppapaaDoorGkFlaw30
import Derived.Test.YtcdneplfgppapaaDoorSWcborc
import Derived.Test.YtcdneplfgppapaaDoorSWlaw30a
set_option linter.unusedVariables false
set_option linter.unusedSimpArgs false
set_option linter.unusedVariables false
set_option maxRecDepth 4000
namespace Go.Proofs
open Go Go.RowKit Go.Gk
theorem c_law30_awake (w0 : World)   (hT : TB [] w0) (r : Bool)
  (h : F.law30_awake  = some r) : Calls Tryd.prog 31 #[] w0 (Ret fun v w => v = vB r ∧ St [] w0 w []) := by
 refine calls_at 72 Tryd.func31 rfl rfl rfl ?_
 have hS := St.start w0
 refine wpC_le [] trivial ?_
 unfold F.law30_awake at h
 refine wpC_seq (wpC_region (wpR_v (OpV_assign rfl) rfl (wpR_nil (QE_then_n (wpC_seq (wpC_region ?_))))))
 refine wpR_x (OpX_lit (e := e8) (l := [161, 97, 97, 130, 1, 245]) (vs := [v8 161, v8 97, v8 97, v8 130, v8 1, v8 245]) Tryd.underlying25 ti5 rfl rfl rfl rfl (by decide) (by decide) hS) rfl ?_
 rintro v_1 w hS
 obtain ⟨x_3, hx_3, h⟩ := obind_some h
 refine wpR_call (by kernel_rfl) rfl (c_cbor_Parse _ [161, 97, 97, 130, 1, 245] v_1  (hT.now hS.fr) (hS.ro 0 rfl).rp _ hx_3) rfl ?_
 rintro _ w ⟨v_4, rfl, hS1⟩
 have hS := hS.call hS1
 simp only [List.cons_append, List.nil_append] at hS
 refine wpR_v (OpV_move rfl) rfl (wpR_v (OpV_extract rfl rfl) rfl ?_)
 refine wpR_v (OpV_extract rfl rfl) rfl ?_
 refine wpR_v (OpV_extract rfl rfl) rfl ?_
 refine wpR_v (OpV_assign rfl) rfl (wpR_v (OpV_assign rfl) rfl (wpR_v (OpV_assign rfl) rfl (wpR_nil (QE_then_n (wpC_seq (wpC_region ?_))))))
 refine wpR_v (OpV_build (vs := [(0, vI 4, [vI 4]), (3, vI 2, [vI 2])]) (cells := [vI 4, v64 0, vS [], vI 2]) rfl lay33 ⟨rfl, rfl, trivial⟩ rfl) rfl ?_
 refine wpR_v (OpV_build (vs := [(0, vI 1, [vI 1]), (1, v64 99, [v64 99])]) (cells := [vI 1, v64 99, vS [], vI 0]) rfl lay33 ⟨rfl, rfl, trivial⟩ rfl) rfl ?_
 refine wpR_v (OpV_build (vs := [(0, vI 2, [vI 2]), (2, vS [120, 121], [vS [120, 121]])]) (cells := [vI 2, v64 0, vS [120, 121], vI 0]) rfl lay33 ⟨rfl, rfl, trivial⟩ rfl) rfl ?_
 refine wpR_x (OpX_litE (e := (eP eI (eP e64 (eP eS eI)))) (l := ([(4, 0, [], 2), (1, 99, [], 0), (2, 0, [120, 121], 0)] : List (Int × UInt64 × (List UInt8) × Int))) (vs := [(0, .agg #[vI 4, v64 0, vS [], vI 2], [vI 4, v64 0, vS [], vI 2]), (1, .agg #[vI 1, v64 99, vS [], vI 0], [vI 1, v64 99, vS [], vI 0]), (2, .agg #[vI 2, v64 0, vS [120, 121], vI 0], [vI 2, v64 0, vS [120, 121], vI 0])]) Tryd.underlying22 ti33 rfl ⟨rfl, rfl, rfl, trivial⟩ rfl rfl (Nat.le_of_ble_eq_true rfl) (Nat.le_of_ble_eq_true rfl) hS) rfl ?_
 rintro v_6 w hS
 obtain ⟨x_8, hx_8, h⟩ := obind_some h
 refine wpR_call (by kernel_rfl) rfl (c_cbor_Print _ ([(4, 0, [], 2), (1, 99, [], 0), (2, 0, [120, 121], 0)] : List (Int × UInt64 × (List UInt8) × Int)) v_6  (hT.now hS.fr) (hS.ro 0 rfl).rp _ hx_8) rfl ?_
 rintro _ w ⟨v_9, rfl, hS1⟩
 have hS := hS.call hS1
 simp only [List.cons_append, List.nil_append] at hS
 refine wpR_v (OpV_move rfl) rfl (wpR_v (OpV_extract rfl rfl) rfl ?_)
 refine wpR_v (OpV_extract rfl rfl) rfl ?_
 refine wpR_v (OpV_assign rfl) rfl (wpR_v (OpV_assign rfl) rfl (wpR_nil (QE_then_n (wpC_seq (wpC_region ?_)))))
 refine wpR_x (OpX_lit (e := e8) (l := [130, 24, 23, 0]) (vs := [v8 130, v8 24, v8 23, v8 0]) Tryd.underlying25 ti5 rfl rfl rfl rfl (by decide) (by decide) hS) rfl ?_
 rintro v_11 w hS
 obtain ⟨x_13, hx_13, h⟩ := obind_some h
 refine wpR_call (by kernel_rfl) rfl (c_cbor_Parse _ [130, 24, 23, 0] v_11  (hT.now hS.fr) (hS.ro 0 rfl).rp _ hx_13) rfl ?_
 rintro _ w ⟨v_14, rfl, hS1⟩
 have hS := hS.call hS1
 simp only [List.cons_append, List.nil_append] at hS
 refine wpR_v (OpV_move rfl) rfl (wpR_v (OpV_extract rfl rfl) rfl ?_)
 refine wpR_v (OpV_extract rfl rfl) rfl ?_
 refine wpR_v (OpV_extract rfl rfl) rfl ?_
 refine wpR_v (OpV_assign rfl) rfl (wpR_v (OpV_assign rfl) rfl (wpR_v (OpV_assign rfl) rfl (wpR_nil (QE_then_n (wpC_seq ?_)))))
 refine seq_join (r := r) (fun (g : Bool) L w => L = [(1, v_4), (4, v_9), (61, vB g)] ∧ St [] w0 w [own (eP eI (eP e64 (eP eS eI))) v_4 x_3.1, own e8 v_9 x_8.1]) (F.law30_awake_K1 x_3 x_8) ?_ ?_
 ·rintro x_24 L w hJ h
  try dsimp only at hJ
  obtain ⟨rfl, hS⟩ := hJ
  unfold F.law30_awake_K1 at h
  refine wpC_cond rfl (fun hb_33 => ?_) (fun hb_33 => ?_)
  ·have h := if_t h hb_33
   refine wpC_seq (wpC_region (wpR_v (OpV_assign rfl) rfl (wpR_nil (QE_then_n (wpC_ret (QE_then_r ?_))))))
   cases h
   exact QE_ret1 rfl rfl ⟨rfl, hS.pick [] (by decide) rfl⟩
  ·have h := if_f h hb_33
   refine wpC_skip (QE_then_n (wpC_seq (wpC_region (wpR_v (OpV_move rfl) rfl ?_))))
   refine wpR_x (OpX_lit (e := e8) (l := [130, 56, 99, 66, 120, 121]) (vs := [v8 130, v8 56, v8 99, v8 66, v8 120, v8 121]) Tryd.underlying25 ti5 rfl rfl rfl rfl (by decide) (by decide) hS) rfl ?_
   rintro v_26 w hS
   obtain ⟨x_28, hx_28, h⟩ := obind_some h
   refine wpR_call (by kernel_rfl) rfl (c_law30_sameBytes _ x_8.1 [130, 56, 99, 66, 120, 121] v_9 v_26  (hS.ro 2 rfl).rp (hS.ro 0 rfl).rp _ hx_28) rfl ?_
   rintro _ w ⟨rfl, hS1⟩
   have hS := hS.call hS1
   simp only [List.cons_append, List.nil_append] at hS
   refine wpR_v (OpV_move rfl) rfl ?_
   cases hb_29 : x_28
   case true =>
    have h := if_t h hb_29
    try simp only [hb_29]
    refine wpR_gv (t := 65) rfl rfl (OpV_move rfl) rfl ?_
    refine wpR_gv (t := 65) rfl rfl (OpV_build (vs := [(0, vI 3, [vI 3]), (2, vS [97], [vS [97]])]) (cells := [vI 3, v64 0, vS [97], vI 0]) rfl lay33 ⟨rfl, rfl, trivial⟩ rfl) rfl ?_
    refine wpR_gx (t := 65) rfl rfl (OpX_litE (e := (eP eI (eP e64 (eP eS eI)))) (l := ([(3, 0, [97], 0)] : List (Int × UInt64 × (List UInt8) × Int))) (vs := [(0, .agg #[vI 3, v64 0, vS [97], vI 0], [vI 3, v64 0, vS [97], vI 0])]) Tryd.underlying22 ti33 rfl ⟨rfl, trivial⟩ rfl rfl (Nat.le_of_ble_eq_true rfl) (Nat.le_of_ble_eq_true rfl) hS) rfl ?_
    rintro v_30 w hS
    obtain ⟨x_32, hx_32, h⟩ := obind_some h
    refine wpR_gcall (t := 65) rfl rfl (by kernel_rfl) rfl (c_cbor_Member _ x_3.1 0 ([(3, 0, [97], 0)] : List (Int × UInt64 × (List UInt8) × Int)) v_4 v_30  (hT.now hS.fr) (hS.ro 2 rfl).rp (hS.ro 0 rfl).rp _ hx_32) rfl ?_
    rintro _ w ⟨rfl, hS1⟩
    have hS := hS.call hS1
    simp only [List.cons_append, List.nil_append] at hS
    refine wpR_gv (t := 65) rfl rfl (OpV_bin rfl rfl (b_ieql _ x_32 2)) rfl ?_
    refine wpR_v (OpV_pickT rfl rfl) rfl (wpR_v (OpV_assign rfl) rfl (wpR_nil (QE_then_n (wpC_ret ?_))))
    cases h
    exact QE_ret1 rfl rfl ⟨rfl, hS.pick [] (by decide) rfl⟩
   case false =>
    have h := if_f h hb_29
    try simp only [hb_29]
    refine wpR_gskip (b := false) (t := 65) rfl rfl rfl rfl ?_
    refine wpR_gskip (b := false) (t := 65) rfl rfl rfl rfl ?_
    refine wpR_gskip (b := false) (t := 65) rfl rfl rfl rfl ?_
    refine wpR_gskip (b := false) (t := 65) rfl rfl rfl rfl ?_
    refine wpR_gskip (b := false) (t := 65) rfl rfl rfl rfl ?_
    refine wpR_v (OpV_pickF rfl rfl) rfl (wpR_v (OpV_assign rfl) rfl (wpR_nil (QE_then_n (wpC_ret ?_))))
    cases h
    exact QE_ret1 rfl rfl ⟨rfl, hS.pick [] (by decide) rfl⟩
 ·intro hK_25
  refine wpC_region (wpR_v (OpV_move rfl) rfl (wpR_v (OpV_bin rfl rfl (b_ineq _ x_3.2.1 0)) rfl ?_))
  refine wpR_v (OpV_move rfl) rfl ?_
  cases hb_16 : (x_3.2.1 != 0)
  case true =>
   have h := if_t h hb_16
   try simp only [hb_16]
   refine wpR_gskip (b := true) (t := 31) rfl rfl rfl rfl ?_
   refine wpR_gskip (b := true) (t := 31) rfl rfl rfl rfl ?_
   refine wpR_v (OpV_pickT rfl rfl) rfl (wpR_v (OpV_move rfl) rfl (wpR_gskip (b := true) (t := 35) rfl rfl rfl rfl ?_))
   refine wpR_gskip (b := true) (t := 35) rfl rfl rfl rfl ?_
   refine wpR_v (OpV_pickT rfl rfl) rfl (wpR_v (OpV_move rfl) rfl (wpR_gskip (b := true) (t := 39) rfl rfl rfl rfl ?_))
   refine wpR_gskip (b := true) (t := 39) rfl rfl rfl rfl ?_
   refine wpR_v (OpV_pickT rfl rfl) rfl (wpR_v (OpV_move rfl) rfl (wpR_gskip (b := true) (t := 43) rfl rfl rfl rfl ?_))
   refine wpR_gskip (b := true) (t := 43) rfl rfl rfl rfl ?_
   refine wpR_gskip (b := true) (t := 43) rfl rfl rfl rfl ?_
   refine wpR_v (OpV_pickT rfl rfl) rfl (wpR_v (OpV_move rfl) rfl (wpR_gskip (b := true) (t := 48) rfl rfl rfl rfl ?_))
   refine wpR_gskip (b := true) (t := 48) rfl rfl rfl rfl ?_
   refine wpR_gskip (b := true) (t := 48) rfl rfl rfl rfl ?_
   refine wpR_gskip (b := true) (t := 48) rfl rfl rfl rfl ?_
   refine wpR_gskip (b := true) (t := 48) rfl rfl rfl rfl ?_
   refine wpR_v (OpV_pickT rfl rfl) rfl (wpR_v (OpV_move rfl) rfl (wpR_gskip (b := true) (t := 55) rfl rfl rfl rfl ?_))
   refine wpR_gskip (b := true) (t := 55) rfl rfl rfl rfl ?_
   refine wpR_gskip (b := true) (t := 55) rfl rfl rfl rfl ?_
   refine wpR_gskip (b := true) (t := 55) rfl rfl rfl rfl ?_
   refine wpR_gskip (b := true) (t := 55) rfl rfl rfl rfl ?_
   refine wpR_v (OpV_pickT rfl rfl) rfl (wpR_nil (QE_then_n ?_))
   exact wpC_le _ (by exact ⟨rfl, rfl, rfl, trivial⟩) (hK_25 true _ _ ⟨rfl, (hS.pick [4, 2] (by decide) rfl)⟩ h)
  case false =>
   have h := if_f h hb_16
   try simp only [hb_16]
   refine wpR_gv (t := 31) rfl rfl (OpV_move rfl) rfl ?_
   refine wpR_gv (t := 31) rfl rfl (OpV_bin rfl rfl (b_ineq _ x_8.2 0)) rfl ?_
   refine wpR_v (OpV_pickF rfl rfl) rfl (wpR_v (OpV_move rfl) rfl ?_)
   cases hb_17 : (x_8.2 != 0)
   case true =>
    have h := if_t h hb_17
    try simp only [hb_17]
    refine wpR_gskip (b := true) (t := 35) rfl rfl rfl rfl ?_
    refine wpR_gskip (b := true) (t := 35) rfl rfl rfl rfl ?_
    refine wpR_v (OpV_pickT rfl rfl) rfl (wpR_v (OpV_move rfl) rfl (wpR_gskip (b := true) (t := 39) rfl rfl rfl rfl ?_))
    refine wpR_gskip (b := true) (t := 39) rfl rfl rfl rfl ?_
    refine wpR_v (OpV_pickT rfl rfl) rfl (wpR_v (OpV_move rfl) rfl (wpR_gskip (b := true) (t := 43) rfl rfl rfl rfl ?_))
    refine wpR_gskip (b := true) (t := 43) rfl rfl rfl rfl ?_
    refine wpR_gskip (b := true) (t := 43) rfl rfl rfl rfl ?_
    refine wpR_v (OpV_pickT rfl rfl) rfl (wpR_v (OpV_move rfl) rfl (wpR_gskip (b := true) (t := 48) rfl rfl rfl rfl ?_))
    refine wpR_gskip (b := true) (t := 48) rfl rfl rfl rfl ?_
    refine wpR_gskip (b := true) (t := 48) rfl rfl rfl rfl ?_
    refine wpR_gskip (b := true) (t := 48) rfl rfl rfl rfl ?_
    refine wpR_gskip (b := true) (t := 48) rfl rfl rfl rfl ?_
    refine wpR_v (OpV_pickT rfl rfl) rfl (wpR_v (OpV_move rfl) rfl (wpR_gskip (b := true) (t := 55) rfl rfl rfl rfl ?_))
    refine wpR_gskip (b := true) (t := 55) rfl rfl rfl rfl ?_
    refine wpR_gskip (b := true) (t := 55) rfl rfl rfl rfl ?_
    refine wpR_gskip (b := true) (t := 55) rfl rfl rfl rfl ?_
    refine wpR_gskip (b := true) (t := 55) rfl rfl rfl rfl ?_
    refine wpR_v (OpV_pickT rfl rfl) rfl (wpR_nil (QE_then_n ?_))
    exact wpC_le _ (by exact ⟨rfl, rfl, rfl, trivial⟩) (hK_25 true _ _ ⟨rfl, (hS.pick [4, 2] (by decide) rfl)⟩ h)
   case false =>
    have h := if_f h hb_17
    try simp only [hb_17]
    refine wpR_gv (t := 35) rfl rfl (OpV_move rfl) rfl ?_
    refine wpR_gv (t := 35) rfl rfl (OpV_bin rfl rfl (b_ineq _ x_13.2.1 220)) rfl ?_
    refine wpR_v (OpV_pickF rfl rfl) rfl (wpR_v (OpV_move rfl) rfl ?_)
    cases hb_18 : (x_13.2.1 != 220)
    case true =>
     have h := if_t h hb_18
     try simp only [hb_18]
     refine wpR_gskip (b := true) (t := 39) rfl rfl rfl rfl ?_
     refine wpR_gskip (b := true) (t := 39) rfl rfl rfl rfl ?_
     refine wpR_v (OpV_pickT rfl rfl) rfl (wpR_v (OpV_move rfl) rfl (wpR_gskip (b := true) (t := 43) rfl rfl rfl rfl ?_))
     refine wpR_gskip (b := true) (t := 43) rfl rfl rfl rfl ?_
     refine wpR_gskip (b := true) (t := 43) rfl rfl rfl rfl ?_
     refine wpR_v (OpV_pickT rfl rfl) rfl (wpR_v (OpV_move rfl) rfl (wpR_gskip (b := true) (t := 48) rfl rfl rfl rfl ?_))
     refine wpR_gskip (b := true) (t := 48) rfl rfl rfl rfl ?_
     refine wpR_gskip (b := true) (t := 48) rfl rfl rfl rfl ?_
     refine wpR_gskip (b := true) (t := 48) rfl rfl rfl rfl ?_
     refine wpR_gskip (b := true) (t := 48) rfl rfl rfl rfl ?_
     refine wpR_v (OpV_pickT rfl rfl) rfl (wpR_v (OpV_move rfl) rfl (wpR_gskip (b := true) (t := 55) rfl rfl rfl rfl ?_))
     refine wpR_gskip (b := true) (t := 55) rfl rfl rfl rfl ?_
     refine wpR_gskip (b := true) (t := 55) rfl rfl rfl rfl ?_
     refine wpR_gskip (b := true) (t := 55) rfl rfl rfl rfl ?_
     refine wpR_gskip (b := true) (t := 55) rfl rfl rfl rfl ?_
     refine wpR_v (OpV_pickT rfl rfl) rfl (wpR_nil (QE_then_n ?_))
     exact wpC_le _ (by exact ⟨rfl, rfl, rfl, trivial⟩) (hK_25 true _ _ ⟨rfl, (hS.pick [4, 2] (by decide) rfl)⟩ h)
    case false =>
     have h := if_f h hb_18
     try simp only [hb_18]
     refine wpR_gv (t := 39) rfl rfl (OpV_move rfl) rfl ?_
     refine wpR_gv (t := 39) rfl rfl (OpV_bin rfl rfl (b_ineq _ x_13.2.2 1)) rfl ?_
     refine wpR_v (OpV_pickF rfl rfl) rfl (wpR_v (OpV_move rfl) rfl ?_)
     cases hb_19 : (x_13.2.2 != 1)
     case true =>
      have h := if_t h hb_19
      try simp only [hb_19]
      refine wpR_gskip (b := true) (t := 43) rfl rfl rfl rfl ?_
      refine wpR_gskip (b := true) (t := 43) rfl rfl rfl rfl ?_
      refine wpR_gskip (b := true) (t := 43) rfl rfl rfl rfl ?_
      refine wpR_v (OpV_pickT rfl rfl) rfl (wpR_v (OpV_move rfl) rfl (wpR_gskip (b := true) (t := 48) rfl rfl rfl rfl ?_))
      refine wpR_gskip (b := true) (t := 48) rfl rfl rfl rfl ?_
      refine wpR_gskip (b := true) (t := 48) rfl rfl rfl rfl ?_
      refine wpR_gskip (b := true) (t := 48) rfl rfl rfl rfl ?_
      refine wpR_gskip (b := true) (t := 48) rfl rfl rfl rfl ?_
      refine wpR_v (OpV_pickT rfl rfl) rfl (wpR_v (OpV_move rfl) rfl (wpR_gskip (b := true) (t := 55) rfl rfl rfl rfl ?_))
      refine wpR_gskip (b := true) (t := 55) rfl rfl rfl rfl ?_
      refine wpR_gskip (b := true) (t := 55) rfl rfl rfl rfl ?_
      refine wpR_gskip (b := true) (t := 55) rfl rfl rfl rfl ?_
      refine wpR_gskip (b := true) (t := 55) rfl rfl rfl rfl ?_
      refine wpR_v (OpV_pickT rfl rfl) rfl (wpR_nil (QE_then_n ?_))
      exact wpC_le _ (by exact ⟨rfl, rfl, rfl, trivial⟩) (hK_25 true _ _ ⟨rfl, (hS.pick [4, 2] (by decide) rfl)⟩ h)
     case false =>
      have h := if_f h hb_19
      try simp only [hb_19]
      refine wpR_gv (t := 43) rfl rfl (OpV_move rfl) rfl ?_
      refine wpR_gv (t := 43) rfl rfl (OpV_len Tryd.underlying22 rfl (hS.ro 4 rfl)) rfl ?_
      refine wpR_gv (t := 43) rfl rfl (OpV_bin rfl rfl (b_ineq _ (x_3.1.length : Int) 5)) rfl ?_
      refine wpR_v (OpV_pickF rfl rfl) rfl (wpR_v (OpV_move rfl) rfl ?_)
      cases hb_20 : ((x_3.1.length : Int) != 5)
      case true =>
       have h := if_t h hb_20
       try simp only [hb_20]
       refine wpR_gskip (b := true) (t := 48) rfl rfl rfl rfl ?_
       refine wpR_gskip (b := true) (t := 48) rfl rfl rfl rfl ?_
       refine wpR_gskip (b := true) (t := 48) rfl rfl rfl rfl ?_
       refine wpR_gskip (b := true) (t := 48) rfl rfl rfl rfl ?_
       refine wpR_gskip (b := true) (t := 48) rfl rfl rfl rfl ?_
       refine wpR_v (OpV_pickT rfl rfl) rfl (wpR_v (OpV_move rfl) rfl (wpR_gskip (b := true) (t := 55) rfl rfl rfl rfl ?_))
       refine wpR_gskip (b := true) (t := 55) rfl rfl rfl rfl ?_
       refine wpR_gskip (b := true) (t := 55) rfl rfl rfl rfl ?_
       refine wpR_gskip (b := true) (t := 55) rfl rfl rfl rfl ?_
       refine wpR_gskip (b := true) (t := 55) rfl rfl rfl rfl ?_
       refine wpR_v (OpV_pickT rfl rfl) rfl (wpR_nil (QE_then_n ?_))
       exact wpC_le _ (by exact ⟨rfl, rfl, rfl, trivial⟩) (hK_25 true _ _ ⟨rfl, (hS.pick [4, 2] (by decide) rfl)⟩ h)
      case false =>
       have h := if_f h hb_20
       try simp only [hb_20]
       refine wpR_gv (t := 48) rfl rfl (OpV_move rfl) rfl ?_
       obtain ⟨x_21, hx_21, h⟩ := obind_some h
       refine wpR_gv (t := 48) rfl rfl (G_ix Tryd.underlying22 ti33 rfl rfl (hS.ro 4 rfl) hx_21) rfl ?_
       refine wpR_gv (t := 48) rfl rfl (OpV_fieldE (k := 2) Tryd.underlying33 rfl rfl nz9 rfl) rfl ?_
       refine wpR_gv (t := 48) rfl rfl (G_loadF Tryd.underlying9 rfl rfl (hS.ro 4 rfl) hx_21 rfl rfl) rfl ?_
       refine wpR_gv (t := 48) rfl rfl (OpV_bin rfl rfl (b_sneq _ x_21.2.2.1 [97])) rfl ?_
       refine wpR_v (OpV_pickF rfl rfl) rfl (wpR_v (OpV_move rfl) rfl ?_)
       cases hb_22 : (x_21.2.2.1 != [97])
       case true =>
        have h := if_t h hb_22
        try simp only [hb_22]
        refine wpR_gskip (b := true) (t := 55) rfl rfl rfl rfl ?_
        refine wpR_gskip (b := true) (t := 55) rfl rfl rfl rfl ?_
        refine wpR_gskip (b := true) (t := 55) rfl rfl rfl rfl ?_
        refine wpR_gskip (b := true) (t := 55) rfl rfl rfl rfl ?_
        refine wpR_gskip (b := true) (t := 55) rfl rfl rfl rfl ?_
        refine wpR_v (OpV_pickT rfl rfl) rfl (wpR_nil (QE_then_n ?_))
        exact wpC_le _ (by exact ⟨rfl, rfl, rfl, trivial⟩) (hK_25 true _ _ ⟨rfl, (hS.pick [4, 2] (by decide) rfl)⟩ h)
       case false =>
        have h := if_f h hb_22
        try simp only [hb_22]
        refine wpR_gv (t := 55) rfl rfl (OpV_move rfl) rfl ?_
        obtain ⟨x_23, hx_23, h⟩ := obind_some h
        refine wpR_gv (t := 55) rfl rfl (G_ix Tryd.underlying22 ti33 rfl rfl (hS.ro 4 rfl) hx_23) rfl ?_
        refine wpR_gv (t := 55) rfl rfl (OpV_fieldE (k := 1) Tryd.underlying33 rfl rfl nz31 rfl) rfl ?_
        refine wpR_gv (t := 55) rfl rfl (G_loadF Tryd.underlying31 rfl rfl (hS.ro 4 rfl) hx_23 rfl rfl) rfl ?_
        refine wpR_gv (t := 55) rfl rfl (OpV_bin rfl rfl (b_neq64 _ x_23.2.1 21)) rfl ?_
        refine wpR_v (OpV_pickF rfl rfl) rfl (wpR_nil (QE_then_n ?_))
        exact wpC_le _ (by exact ⟨rfl, rfl, rfl, trivial⟩) (hK_25 (x_23.2.1 != 21) _ _ ⟨rfl, (hS.pick [4, 2] (by decide) rfl)⟩ h)
end Go.Proofs
