import Derived.Test.YtcdneplfgppapaaDoorVW0
import Derived.Test.YtcdneplfgppapaaDoorGkFlaw30
import Derived.Test.YtcdneplfgppapaaDoorVWcborc
import Derived.Test.YtcdneplfgppapaaDoorVWlaw30a
set_option linter.unusedVariables false
set_option linter.unusedSimpArgs false
set_option linter.unusedVariables false
set_option maxRecDepth 4000
namespace Go.Proofs
open Go Go.RowKit Go.Gk
theorem c_law30_awake (w0 : World)   (hT : TB [] w0) (r : Bool)
  (h : F.law30_awake  = some r) : Calls Tryd.prog 31 #[] w0 (Ret fun v w => v = vB r ∧ St [] w0 w []) := by
 refine calls_at 72 Tryd.func31 rfl rfl rfl ?_
 have hS := St.start w0
 refine wpC_le [] trivial ?_
 unfold F.law30_awake at h
 refine wpC_seq ?_
 refine wpC_region ?_
 refine wpR_v (OpV_assign rfl) rfl ?_
 refine wpR_nil ?_
 refine QE_then_n ?_
 refine wpC_seq ?_
 refine wpC_region ?_
 refine wpR_x (OpX_lit (e := e8) (l := [161, 97, 97, 130, 1, 245]) (vs := [v8 161, v8 97, v8 97, v8 130, v8 1, v8 245]) Tryd.underlying25 ti5 rfl rfl rfl rfl (by decide) (by decide) hS) rfl ?_
 rintro v_1 w hS
 obtain ⟨x_3, hx_3, h⟩ := obind_some h
 refine wpR_call (by kernel_rfl) rfl (c_cbor_Parse _ [161, 97, 97, 130, 1, 245] v_1  (hT.now hS.fr) (hS.ro 0 rfl).rp _ hx_3) rfl ?_
 rintro _ w ⟨v_4, rfl, hS1⟩
 have hS := hS.call hS1
 simp only [List.cons_append, List.nil_append] at hS
 refine wpR_v (OpV_move rfl) rfl ?_
 refine wpR_v (OpV_extract rfl rfl) rfl ?_
 refine wpR_v (OpV_extract rfl rfl) rfl ?_
 refine wpR_v (OpV_extract rfl rfl) rfl ?_
 refine wpR_v (OpV_assign rfl) rfl ?_
 refine wpR_v (OpV_assign rfl) rfl ?_
 refine wpR_v (OpV_assign rfl) rfl ?_
 refine wpR_nil ?_
 refine QE_then_n ?_
 refine wpC_seq ?_
 refine wpC_region ?_
 refine wpR_v (OpV_build (vs := [(0, vI 4, [vI 4]), (3, vI 2, [vI 2])]) (cells := [vI 4, v64 0, vS [], vI 2]) rfl lay33 ⟨rfl, rfl, trivial⟩ rfl) rfl ?_
 refine wpR_v (OpV_build (vs := [(0, vI 1, [vI 1]), (1, v64 99, [v64 99])]) (cells := [vI 1, v64 99, vS [], vI 0]) rfl lay33 ⟨rfl, rfl, trivial⟩ rfl) rfl ?_
 refine wpR_v (OpV_build (vs := [(0, vI 2, [vI 2]), (2, vS [120, 121], [vS [120, 121]])]) (cells := [vI 2, v64 0, vS [120, 121], vI 0]) rfl lay33 ⟨rfl, rfl, trivial⟩ rfl) rfl ?_
 refine wpR_x (OpX_litE (e := (eP eI (eP e64 (eP eS eI)))) (l := ([(4, 0, [], 2), (1, 99, [], 0), (2, 0, [120, 121], 0)] : List (Int × UInt64 × (List UInt8) × Int))) (vs := [(0, .agg #[vI 4, v64 0, vS [], vI 2], [vI 4, v64 0, vS [], vI 2]), (1, .agg #[vI 1, v64 99, vS [], vI 0], [vI 1, v64 99, vS [], vI 0]), (2, .agg #[vI 2, v64 0, vS [120, 121], vI 0], [vI 2, v64 0, vS [120, 121], vI 0])]) Tryd.underlying22 ti33 rfl ⟨rfl, rfl, rfl, trivial⟩ rfl rfl (Nat.le_of_ble_eq_true rfl) (Nat.le_of_ble_eq_true rfl) hS) rfl ?_
 rintro v_6 w hS
 obtain ⟨x_8, hx_8, h⟩ := obind_some h
 refine wpR_call (by kernel_rfl) rfl (c_cbor_Print _ ([(4, 0, [], 2), (1, 99, [], 0), (2, 0, [120, 121], 0)] : List (Int × UInt64 × (List UInt8) × Int)) v_6  (hT.now hS.fr) (hS.ro 0 rfl).rp _ hx_8) rfl ?_
 rintro _ w ⟨v_9, rfl, hS1⟩
 have hS := hS.call hS1
 simp only [List.cons_append, List.nil_append] at hS
 refine wpR_v (OpV_move rfl) rfl ?_
 refine wpR_v (OpV_extract rfl rfl) rfl ?_
 refine wpR_v (OpV_extract rfl rfl) rfl ?_
 refine wpR_v (OpV_assign rfl) rfl ?_
 refine wpR_v (OpV_assign rfl) rfl ?_
 refine wpR_nil ?_
 refine QE_then_n ?_
 refine wpC_seq ?_
 refine wpC_region ?_
 refine wpR_x (OpX_lit (e := e8) (l := [130, 24, 23, 0]) (vs := [v8 130, v8 24, v8 23, v8 0]) Tryd.underlying25 ti5 rfl rfl rfl rfl (by decide) (by decide) hS) rfl ?_
 rintro v_11 w hS
 obtain ⟨x_13, hx_13, h⟩ := obind_some h
 refine wpR_call (by kernel_rfl) rfl (c_cbor_Parse _ [130, 24, 23, 0] v_11  (hT.now hS.fr) (hS.ro 0 rfl).rp _ hx_13) rfl ?_
 rintro _ w ⟨v_14, rfl, hS1⟩
 have hS := hS.call hS1
 simp only [List.cons_append, List.nil_append] at hS
 refine wpR_v (OpV_move rfl) rfl ?_
 refine wpR_v (OpV_extract rfl rfl) rfl ?_
 refine wpR_v (OpV_extract rfl rfl) rfl ?_
 refine wpR_v (OpV_extract rfl rfl) rfl ?_
 refine wpR_v (OpV_assign rfl) rfl ?_
 refine wpR_v (OpV_assign rfl) rfl ?_
 refine wpR_v (OpV_assign rfl) rfl ?_
 refine wpR_nil ?_
 refine QE_then_n ?_
 refine wpC_seq ?_
 refine seq_join (r := r) (fun (g : Bool) L w => L = [(1, v_4), (4, v_9), (61, vB g)] ∧ St [] w0 w [own (eP eI (eP e64 (eP eS eI))) v_4 x_3.1, own e8 v_9 x_8.1]) (F.law30_awake_K1 x_3 x_8) ?_ ?_
 ·rintro x_24 L w hJ h
  try dsimp only at hJ
  obtain ⟨rfl, hS⟩ := hJ
  unfold F.law30_awake_K1 at h
  refine wpC_cond rfl (fun hb_33 => ?_) (fun hb_33 => ?_)
  ·have h := if_t h hb_33
   refine wpC_seq ?_
   refine wpC_region ?_
   refine wpR_v (OpV_assign rfl) rfl ?_
   refine wpR_nil ?_
   refine QE_then_n ?_
   refine wpC_ret ?_
   refine QE_then_r ?_
   cases h
   exact QE_ret1 rfl rfl ⟨rfl, hS.pick [] (by decide) rfl⟩
  ·have h := if_f h hb_33
   refine wpC_skip ?_
   refine QE_then_n ?_
   refine wpC_seq ?_
   refine wpC_region ?_
   refine wpR_v (OpV_move rfl) rfl ?_
   refine wpR_x (OpX_lit (e := e8) (l := [130, 56, 99, 66, 120, 121]) (vs := [v8 130, v8 56, v8 99, v8 66, v8 120, v8 121]) Tryd.underlying25 ti5 rfl rfl rfl rfl (by decide) (by decide) hS) rfl ?_
   rintro v_26 w hS
   obtain ⟨x_28, hx_28, h⟩ := obind_some h
   refine wpR_call (by kernel_rfl) rfl (c_law30_sameBytes _ x_8.1 [130, 56, 99, 66, 120, 121] v_9 v_26  (hS.ro 2 rfl).rp (hS.ro 0 rfl).rp _ hx_28) rfl ?_
   rintro _ w ⟨rfl, hS1⟩
   have hS := hS.call hS1
   simp only [List.cons_append, List.nil_append] at hS
   refine wpR_v (OpV_move rfl) rfl ?_
   cases hb_29 : x_28
   case true =>
    have h := if_t h hb_29
    try simp only [hb_29]
    refine wpR_gv (t := 65) rfl rfl (OpV_move rfl) rfl ?_
    refine wpR_gv (t := 65) rfl rfl (OpV_build (vs := [(0, vI 3, [vI 3]), (2, vS [97], [vS [97]])]) (cells := [vI 3, v64 0, vS [97], vI 0]) rfl lay33 ⟨rfl, rfl, trivial⟩ rfl) rfl ?_
    refine wpR_gx (t := 65) rfl rfl (OpX_litE (e := (eP eI (eP e64 (eP eS eI)))) (l := ([(3, 0, [97], 0)] : List (Int × UInt64 × (List UInt8) × Int))) (vs := [(0, .agg #[vI 3, v64 0, vS [97], vI 0], [vI 3, v64 0, vS [97], vI 0])]) Tryd.underlying22 ti33 rfl ⟨rfl, trivial⟩ rfl rfl (Nat.le_of_ble_eq_true rfl) (Nat.le_of_ble_eq_true rfl) hS) rfl ?_
    rintro v_30 w hS
    obtain ⟨x_32, hx_32, h⟩ := obind_some h
    refine wpR_gcall (t := 65) rfl rfl (by kernel_rfl) rfl (c_cbor_Member _ x_3.1 0 ([(3, 0, [97], 0)] : List (Int × UInt64 × (List UInt8) × Int)) v_4 v_30  (hT.now hS.fr) (hS.ro 2 rfl).rp (hS.ro 0 rfl).rp _ hx_32) rfl ?_
    rintro _ w ⟨rfl, hS1⟩
    have hS := hS.call hS1
    simp only [List.cons_append, List.nil_append] at hS
    refine wpR_gv (t := 65) rfl rfl (OpV_bin rfl rfl (b_ieql _ x_32 2)) rfl ?_
    refine wpR_v (OpV_pickT rfl rfl) rfl ?_
    refine wpR_v (OpV_assign rfl) rfl ?_
    refine wpR_nil ?_
    refine QE_then_n ?_
    refine wpC_ret ?_
    cases h
    exact QE_ret1 rfl rfl ⟨rfl, hS.pick [] (by decide) rfl⟩
   case false =>
    have h := if_f h hb_29
    try simp only [hb_29]
    refine wpR_gskip (b := false) (t := 65) rfl rfl rfl rfl ?_
    refine wpR_gskip (b := false) (t := 65) rfl rfl rfl rfl ?_
    refine wpR_gskip (b := false) (t := 65) rfl rfl rfl rfl ?_
    refine wpR_gskip (b := false) (t := 65) rfl rfl rfl rfl ?_
    refine wpR_gskip (b := false) (t := 65) rfl rfl rfl rfl ?_
    refine wpR_v (OpV_pickF rfl rfl) rfl ?_
    refine wpR_v (OpV_assign rfl) rfl ?_
    refine wpR_nil ?_
    refine QE_then_n ?_
    refine wpC_ret ?_
    cases h
    exact QE_ret1 rfl rfl ⟨rfl, hS.pick [] (by decide) rfl⟩
 ·intro hK_25
  refine wpC_region ?_
  refine wpR_v (OpV_move rfl) rfl ?_
  refine wpR_v (OpV_bin rfl rfl (b_ineq _ x_3.2.1 0)) rfl ?_
  refine wpR_v (OpV_move rfl) rfl ?_
  cases hb_16 : (x_3.2.1 != 0)
  case true =>
   have h := if_t h hb_16
   try simp only [hb_16]
   refine wpR_gskip (b := true) (t := 31) rfl rfl rfl rfl ?_
   refine wpR_gskip (b := true) (t := 31) rfl rfl rfl rfl ?_
   refine wpR_v (OpV_pickT rfl rfl) rfl ?_
   refine wpR_v (OpV_move rfl) rfl ?_
   refine wpR_gskip (b := true) (t := 35) rfl rfl rfl rfl ?_
   refine wpR_gskip (b := true) (t := 35) rfl rfl rfl rfl ?_
   refine wpR_v (OpV_pickT rfl rfl) rfl ?_
   refine wpR_v (OpV_move rfl) rfl ?_
   refine wpR_gskip (b := true) (t := 39) rfl rfl rfl rfl ?_
   refine wpR_gskip (b := true) (t := 39) rfl rfl rfl rfl ?_
   refine wpR_v (OpV_pickT rfl rfl) rfl ?_
   refine wpR_v (OpV_move rfl) rfl ?_
   refine wpR_gskip (b := true) (t := 43) rfl rfl rfl rfl ?_
   refine wpR_gskip (b := true) (t := 43) rfl rfl rfl rfl ?_
   refine wpR_gskip (b := true) (t := 43) rfl rfl rfl rfl ?_
   refine wpR_v (OpV_pickT rfl rfl) rfl ?_
   refine wpR_v (OpV_move rfl) rfl ?_
   refine wpR_gskip (b := true) (t := 48) rfl rfl rfl rfl ?_
   refine wpR_gskip (b := true) (t := 48) rfl rfl rfl rfl ?_
   refine wpR_gskip (b := true) (t := 48) rfl rfl rfl rfl ?_
   refine wpR_gskip (b := true) (t := 48) rfl rfl rfl rfl ?_
   refine wpR_gskip (b := true) (t := 48) rfl rfl rfl rfl ?_
   refine wpR_v (OpV_pickT rfl rfl) rfl ?_
   refine wpR_v (OpV_move rfl) rfl ?_
   refine wpR_gskip (b := true) (t := 55) rfl rfl rfl rfl ?_
   refine wpR_gskip (b := true) (t := 55) rfl rfl rfl rfl ?_
   refine wpR_gskip (b := true) (t := 55) rfl rfl rfl rfl ?_
   refine wpR_gskip (b := true) (t := 55) rfl rfl rfl rfl ?_
   refine wpR_gskip (b := true) (t := 55) rfl rfl rfl rfl ?_
   refine wpR_v (OpV_pickT rfl rfl) rfl ?_
   refine wpR_nil ?_
   refine QE_then_n ?_
   exact wpC_le _ (by exact ⟨rfl, rfl, rfl, trivial⟩) (hK_25 true _ _ ⟨rfl, (hS.pick [4, 2] (by decide) rfl)⟩ h)
  case false =>
   have h := if_f h hb_16
   try simp only [hb_16]
   refine wpR_gv (t := 31) rfl rfl (OpV_move rfl) rfl ?_
   refine wpR_gv (t := 31) rfl rfl (OpV_bin rfl rfl (b_ineq _ x_8.2 0)) rfl ?_
   refine wpR_v (OpV_pickF rfl rfl) rfl ?_
   refine wpR_v (OpV_move rfl) rfl ?_
   cases hb_17 : (x_8.2 != 0)
   case true =>
    have h := if_t h hb_17
    try simp only [hb_17]
    refine wpR_gskip (b := true) (t := 35) rfl rfl rfl rfl ?_
    refine wpR_gskip (b := true) (t := 35) rfl rfl rfl rfl ?_
    refine wpR_v (OpV_pickT rfl rfl) rfl ?_
    refine wpR_v (OpV_move rfl) rfl ?_
    refine wpR_gskip (b := true) (t := 39) rfl rfl rfl rfl ?_
    refine wpR_gskip (b := true) (t := 39) rfl rfl rfl rfl ?_
    refine wpR_v (OpV_pickT rfl rfl) rfl ?_
    refine wpR_v (OpV_move rfl) rfl ?_
    refine wpR_gskip (b := true) (t := 43) rfl rfl rfl rfl ?_
    refine wpR_gskip (b := true) (t := 43) rfl rfl rfl rfl ?_
    refine wpR_gskip (b := true) (t := 43) rfl rfl rfl rfl ?_
    refine wpR_v (OpV_pickT rfl rfl) rfl ?_
    refine wpR_v (OpV_move rfl) rfl ?_
    refine wpR_gskip (b := true) (t := 48) rfl rfl rfl rfl ?_
    refine wpR_gskip (b := true) (t := 48) rfl rfl rfl rfl ?_
    refine wpR_gskip (b := true) (t := 48) rfl rfl rfl rfl ?_
    refine wpR_gskip (b := true) (t := 48) rfl rfl rfl rfl ?_
    refine wpR_gskip (b := true) (t := 48) rfl rfl rfl rfl ?_
    refine wpR_v (OpV_pickT rfl rfl) rfl ?_
    refine wpR_v (OpV_move rfl) rfl ?_
    refine wpR_gskip (b := true) (t := 55) rfl rfl rfl rfl ?_
    refine wpR_gskip (b := true) (t := 55) rfl rfl rfl rfl ?_
    refine wpR_gskip (b := true) (t := 55) rfl rfl rfl rfl ?_
    refine wpR_gskip (b := true) (t := 55) rfl rfl rfl rfl ?_
    refine wpR_gskip (b := true) (t := 55) rfl rfl rfl rfl ?_
    refine wpR_v (OpV_pickT rfl rfl) rfl ?_
    refine wpR_nil ?_
    refine QE_then_n ?_
    exact wpC_le _ (by exact ⟨rfl, rfl, rfl, trivial⟩) (hK_25 true _ _ ⟨rfl, (hS.pick [4, 2] (by decide) rfl)⟩ h)
   case false =>
    have h := if_f h hb_17
    try simp only [hb_17]
    refine wpR_gv (t := 35) rfl rfl (OpV_move rfl) rfl ?_
    refine wpR_gv (t := 35) rfl rfl (OpV_bin rfl rfl (b_ineq _ x_13.2.1 220)) rfl ?_
    refine wpR_v (OpV_pickF rfl rfl) rfl ?_
    refine wpR_v (OpV_move rfl) rfl ?_
    cases hb_18 : (x_13.2.1 != 220)
    case true =>
     have h := if_t h hb_18
     try simp only [hb_18]
     refine wpR_gskip (b := true) (t := 39) rfl rfl rfl rfl ?_
     refine wpR_gskip (b := true) (t := 39) rfl rfl rfl rfl ?_
     refine wpR_v (OpV_pickT rfl rfl) rfl ?_
     refine wpR_v (OpV_move rfl) rfl ?_
     refine wpR_gskip (b := true) (t := 43) rfl rfl rfl rfl ?_
     refine wpR_gskip (b := true) (t := 43) rfl rfl rfl rfl ?_
     refine wpR_gskip (b := true) (t := 43) rfl rfl rfl rfl ?_
     refine wpR_v (OpV_pickT rfl rfl) rfl ?_
     refine wpR_v (OpV_move rfl) rfl ?_
     refine wpR_gskip (b := true) (t := 48) rfl rfl rfl rfl ?_
     refine wpR_gskip (b := true) (t := 48) rfl rfl rfl rfl ?_
     refine wpR_gskip (b := true) (t := 48) rfl rfl rfl rfl ?_
     refine wpR_gskip (b := true) (t := 48) rfl rfl rfl rfl ?_
     refine wpR_gskip (b := true) (t := 48) rfl rfl rfl rfl ?_
     refine wpR_v (OpV_pickT rfl rfl) rfl ?_
     refine wpR_v (OpV_move rfl) rfl ?_
     refine wpR_gskip (b := true) (t := 55) rfl rfl rfl rfl ?_
     refine wpR_gskip (b := true) (t := 55) rfl rfl rfl rfl ?_
     refine wpR_gskip (b := true) (t := 55) rfl rfl rfl rfl ?_
     refine wpR_gskip (b := true) (t := 55) rfl rfl rfl rfl ?_
     refine wpR_gskip (b := true) (t := 55) rfl rfl rfl rfl ?_
     refine wpR_v (OpV_pickT rfl rfl) rfl ?_
     refine wpR_nil ?_
     refine QE_then_n ?_
     exact wpC_le _ (by exact ⟨rfl, rfl, rfl, trivial⟩) (hK_25 true _ _ ⟨rfl, (hS.pick [4, 2] (by decide) rfl)⟩ h)
    case false =>
     have h := if_f h hb_18
     try simp only [hb_18]
     refine wpR_gv (t := 39) rfl rfl (OpV_move rfl) rfl ?_
     refine wpR_gv (t := 39) rfl rfl (OpV_bin rfl rfl (b_ineq _ x_13.2.2 1)) rfl ?_
     refine wpR_v (OpV_pickF rfl rfl) rfl ?_
     refine wpR_v (OpV_move rfl) rfl ?_
     cases hb_19 : (x_13.2.2 != 1)
     case true =>
      have h := if_t h hb_19
      try simp only [hb_19]
      refine wpR_gskip (b := true) (t := 43) rfl rfl rfl rfl ?_
      refine wpR_gskip (b := true) (t := 43) rfl rfl rfl rfl ?_
      refine wpR_gskip (b := true) (t := 43) rfl rfl rfl rfl ?_
      refine wpR_v (OpV_pickT rfl rfl) rfl ?_
      refine wpR_v (OpV_move rfl) rfl ?_
      refine wpR_gskip (b := true) (t := 48) rfl rfl rfl rfl ?_
      refine wpR_gskip (b := true) (t := 48) rfl rfl rfl rfl ?_
      refine wpR_gskip (b := true) (t := 48) rfl rfl rfl rfl ?_
      refine wpR_gskip (b := true) (t := 48) rfl rfl rfl rfl ?_
      refine wpR_gskip (b := true) (t := 48) rfl rfl rfl rfl ?_
      refine wpR_v (OpV_pickT rfl rfl) rfl ?_
      refine wpR_v (OpV_move rfl) rfl ?_
      refine wpR_gskip (b := true) (t := 55) rfl rfl rfl rfl ?_
      refine wpR_gskip (b := true) (t := 55) rfl rfl rfl rfl ?_
      refine wpR_gskip (b := true) (t := 55) rfl rfl rfl rfl ?_
      refine wpR_gskip (b := true) (t := 55) rfl rfl rfl rfl ?_
      refine wpR_gskip (b := true) (t := 55) rfl rfl rfl rfl ?_
      refine wpR_v (OpV_pickT rfl rfl) rfl ?_
      refine wpR_nil ?_
      refine QE_then_n ?_
      exact wpC_le _ (by exact ⟨rfl, rfl, rfl, trivial⟩) (hK_25 true _ _ ⟨rfl, (hS.pick [4, 2] (by decide) rfl)⟩ h)
     case false =>
      have h := if_f h hb_19
      try simp only [hb_19]
      refine wpR_gv (t := 43) rfl rfl (OpV_move rfl) rfl ?_
      refine wpR_gv (t := 43) rfl rfl (OpV_len Tryd.underlying22 rfl (hS.ro 4 rfl)) rfl ?_
      refine wpR_gv (t := 43) rfl rfl (OpV_bin rfl rfl (b_ineq _ (x_3.1.length : Int) 5)) rfl ?_
      refine wpR_v (OpV_pickF rfl rfl) rfl ?_
      refine wpR_v (OpV_move rfl) rfl ?_
      cases hb_20 : ((x_3.1.length : Int) != 5)
      case true =>
       have h := if_t h hb_20
       try simp only [hb_20]
       refine wpR_gskip (b := true) (t := 48) rfl rfl rfl rfl ?_
       refine wpR_gskip (b := true) (t := 48) rfl rfl rfl rfl ?_
       refine wpR_gskip (b := true) (t := 48) rfl rfl rfl rfl ?_
       refine wpR_gskip (b := true) (t := 48) rfl rfl rfl rfl ?_
       refine wpR_gskip (b := true) (t := 48) rfl rfl rfl rfl ?_
       refine wpR_v (OpV_pickT rfl rfl) rfl ?_
       refine wpR_v (OpV_move rfl) rfl ?_
       refine wpR_gskip (b := true) (t := 55) rfl rfl rfl rfl ?_
       refine wpR_gskip (b := true) (t := 55) rfl rfl rfl rfl ?_
       refine wpR_gskip (b := true) (t := 55) rfl rfl rfl rfl ?_
       refine wpR_gskip (b := true) (t := 55) rfl rfl rfl rfl ?_
       refine wpR_gskip (b := true) (t := 55) rfl rfl rfl rfl ?_
       refine wpR_v (OpV_pickT rfl rfl) rfl ?_
       refine wpR_nil ?_
       refine QE_then_n ?_
       exact wpC_le _ (by exact ⟨rfl, rfl, rfl, trivial⟩) (hK_25 true _ _ ⟨rfl, (hS.pick [4, 2] (by decide) rfl)⟩ h)
      case false =>
       have h := if_f h hb_20
       try simp only [hb_20]
       refine wpR_gv (t := 48) rfl rfl (OpV_move rfl) rfl ?_
       obtain ⟨x_21, hx_21, h⟩ := obind_some h
       refine wpR_gv (t := 48) rfl rfl (G_ix Tryd.underlying22 ti33 rfl rfl (hS.ro 4 rfl) hx_21) rfl ?_
       refine wpR_gv (t := 48) rfl rfl (OpV_fieldE (k := 2) Tryd.underlying33 rfl rfl nz9 rfl) rfl ?_
       refine wpR_gv (t := 48) rfl rfl (G_loadF Tryd.underlying9 rfl rfl (hS.ro 4 rfl) hx_21 rfl rfl) rfl ?_
       refine wpR_gv (t := 48) rfl rfl (OpV_bin rfl rfl (b_sneq _ x_21.2.2.1 [97])) rfl ?_
       refine wpR_v (OpV_pickF rfl rfl) rfl ?_
       refine wpR_v (OpV_move rfl) rfl ?_
       cases hb_22 : (x_21.2.2.1 != [97])
       case true =>
        have h := if_t h hb_22
        try simp only [hb_22]
        refine wpR_gskip (b := true) (t := 55) rfl rfl rfl rfl ?_
        refine wpR_gskip (b := true) (t := 55) rfl rfl rfl rfl ?_
        refine wpR_gskip (b := true) (t := 55) rfl rfl rfl rfl ?_
        refine wpR_gskip (b := true) (t := 55) rfl rfl rfl rfl ?_
        refine wpR_gskip (b := true) (t := 55) rfl rfl rfl rfl ?_
        refine wpR_v (OpV_pickT rfl rfl) rfl ?_
        refine wpR_nil ?_
        refine QE_then_n ?_
        exact wpC_le _ (by exact ⟨rfl, rfl, rfl, trivial⟩) (hK_25 true _ _ ⟨rfl, (hS.pick [4, 2] (by decide) rfl)⟩ h)
       case false =>
        have h := if_f h hb_22
        try simp only [hb_22]
        refine wpR_gv (t := 55) rfl rfl (OpV_move rfl) rfl ?_
        obtain ⟨x_23, hx_23, h⟩ := obind_some h
        refine wpR_gv (t := 55) rfl rfl (G_ix Tryd.underlying22 ti33 rfl rfl (hS.ro 4 rfl) hx_23) rfl ?_
        refine wpR_gv (t := 55) rfl rfl (OpV_fieldE (k := 1) Tryd.underlying33 rfl rfl nz31 rfl) rfl ?_
        refine wpR_gv (t := 55) rfl rfl (G_loadF Tryd.underlying31 rfl rfl (hS.ro 4 rfl) hx_23 rfl rfl) rfl ?_
        refine wpR_gv (t := 55) rfl rfl (OpV_bin rfl rfl (b_neq64 _ x_23.2.1 21)) rfl ?_
        refine wpR_v (OpV_pickF rfl rfl) rfl ?_
        refine wpR_nil ?_
        refine QE_then_n ?_
        exact wpC_le _ (by exact ⟨rfl, rfl, rfl, trivial⟩) (hK_25 (x_23.2.1 != 21) _ _ ⟨rfl, (hS.pick [4, 2] (by decide) rfl)⟩ h)
theorem c_law30_headed (w0 : World) (a0 : Int) (a1 : UInt64) (a2 : Int)   (r : List UInt8)
  (h : F.law30_headed a0 a1 a2 = some r) : Calls Tryd.prog 34 #[vI a0, v64 a1, vI a2] w0 (Ret fun v w => St [] w0 w [own e8 v r]) := by
 refine calls_at 51 Tryd.func34 rfl rfl rfl ?_
 have hS := St.start w0
 refine wpC_le [(0, vI a0), (1, v64 a1), (2, vI a2)] ⟨rfl, rfl, rfl, trivial⟩ ?_
 unfold F.law30_headed at h
 refine wpC_seq ?_
 refine wpC_region ?_
 refine wpR_v (OpV_assign rfl) rfl ?_
 refine wpR_nil ?_
 refine QE_then_n ?_
 refine wpC_seq ?_
 refine wpC_seq ?_
 refine wpC_region ?_
 refine wpR_v (OpV_move rfl) rfl ?_
 refine wpR_v (OpV_bin rfl rfl (b_ieql _ a2 0)) rfl ?_
 refine wpR_nil ?_
 refine QE_then_n ?_
 refine wpC_cond rfl (fun hb_26 => ?_) (fun hb_26 => ?_)
 ·have h := if_t h hb_26
  refine wpC_seq ?_
  refine wpC_region ?_
  refine wpR_v (OpV_move rfl) rfl ?_
  refine wpR_v (OpV_bin rfl rfl (b_imul _ 32 a0)) rfl ?_
  refine wpR_v (OpV_conv rfl (cv_i_8 Tryd.underlying3 Tryd.underlying5 (wI (32 * a0)))) rfl ?_
  refine wpR_v (OpV_move rfl) rfl ?_
  refine wpR_v (OpV_bin rfl rfl (b_rem64 _ a1 24 (by decide))) rfl ?_
  refine wpR_v (OpV_conv rfl (cv_64_8 Tryd.underlying31 Tryd.underlying5 (a1 % 24))) rfl ?_
  refine wpR_v (OpV_bin rfl rfl (b_add8 _ (UInt8.ofInt (wI (32 * a0))) ((a1 % 24).toUInt8))) rfl ?_
  refine wpR_x (OpX_lit (e := e8) (l := [(UInt8.ofInt (wI (32 * a0))) + ((a1 % 24).toUInt8)]) (vs := [v8 ((UInt8.ofInt (wI (32 * a0))) + ((a1 % 24).toUInt8))]) Tryd.underlying25 ti5 rfl rfl rfl rfl (by decide) (by decide) hS) rfl ?_
  rintro v_1 w hS
  refine wpR_v (OpV_assign rfl) rfl ?_
  refine wpR_nil ?_
  refine QE_then_n ?_
  refine wpC_ret ?_
  refine QE_then_r ?_
  cases h
  exact QE_ret1 rfl rfl (hS.pick [0] (by decide) rfl)
 ·have h := if_f h hb_26
  refine wpC_skip ?_
  refine QE_then_n ?_
  refine wpC_seq ?_
  refine wpC_region ?_
  refine wpR_v (OpV_assign rfl) rfl ?_
  refine wpR_nil ?_
  refine QE_then_n ?_
  refine wpC_seq ?_
  refine wpC_seq ?_
  refine wpC_region ?_
  refine wpR_v (OpV_assign rfl) rfl ?_
  refine wpR_nil ?_
  refine QE_then_n ?_
  refine wpC_block ?_
  refine wpC_le [(0, vI a0), (1, v64 a1), (2, vI a2), (7, vI 24), (8, vI 1)] ⟨rfl, rfl, rfl, rfl, rfl, trivial⟩ ?_
  refine loop_ind (F.law30_headed_L1 a0 a2 a1) (fun (s : Int × Int) L w => L = [(0, vI a0), (1, v64 a1), (2, vI a2), (7, vI s.1), (8, vI s.2)] ∧ St [] w0 w []) ?_ (24, 1) ⟨rfl, hS⟩ h
  rintro k_25 ⟨x_3, x_4⟩ L w q_7 hI ih_6 h hk_5
  try dsimp only at hI
  obtain ⟨rfl, hS⟩ := hI
  unfold F.law30_headed_L1 at h
  refine wpC_seq ?_
  refine wpC_seq ?_
  refine wpC_region ?_
  refine wpR_v (OpV_move rfl) rfl ?_
  refine wpR_v (OpV_move rfl) rfl ?_
  refine wpR_v (OpV_bin rfl rfl (b_ilss _ x_4 a2)) rfl ?_
  refine wpR_nil ?_
  refine QE_then_n ?_
  refine wpC_cond rfl (fun hb_24 => ?_) (fun hb_24 => ?_)
  ·have h := if_t h hb_24
   refine wpC_skip ?_
   refine QE_then_n ?_
   refine wpC_seq ?_
   refine wpC_block ?_
   refine wpC_region ?_
   refine wpR_v (OpV_move rfl) rfl ?_
   refine wpR_v (OpV_bin rfl rfl (b_iadd _ x_3 1)) rfl ?_
   refine wpR_v (OpV_assign rfl) rfl ?_
   refine wpR_nil ?_
   refine QE_blk_n ?_
   refine QE_then_n ?_
   refine wpC_region ?_
   refine wpR_v (OpV_move rfl) rfl ?_
   refine wpR_v (OpV_bin rfl rfl (b_imul _ 2 x_4)) rfl ?_
   refine wpR_v (OpV_assign rfl) rfl ?_
   refine wpR_nil ?_
   exact QE_rnd (wpN_le _ (by exact ⟨rfl, rfl, rfl, rfl, rfl, trivial⟩) (ih_6 (wI (x_3 + 1), wI (2 * x_4)) _ _ ⟨rfl, hS⟩ (oinl_some h hk_5)))
  ·have h := if_f h hb_24
   refine wpC_exit ?_
   refine QE_then_x ?_
   refine QE_then_x ?_
   have h := oinr_some h hk_5
   refine QE_blk_x ?_
   refine QE_then_n ?_
   refine wpC_seq ?_
   refine wpC_region ?_
   refine wpR_v (OpV_move rfl) rfl ?_
   refine wpR_v (OpV_bin rfl rfl (b_imul _ 32 a0)) rfl ?_
   refine wpR_v (OpV_move rfl) rfl ?_
   refine wpR_v (OpV_bin rfl rfl (b_iadd _ (wI (32 * a0)) x_3)) rfl ?_
   refine wpR_v (OpV_conv rfl (cv_i_8 Tryd.underlying3 Tryd.underlying5 (wI ((wI (32 * a0)) + x_3)))) rfl ?_
   refine wpR_x (OpX_lit (e := e8) (l := [UInt8.ofInt (wI ((wI (32 * a0)) + x_3))]) (vs := [v8 (UInt8.ofInt (wI ((wI (32 * a0)) + x_3)))]) Tryd.underlying25 ti5 rfl rfl rfl rfl (by decide) (by decide) hS) rfl ?_
   rintro v_8 w hS
   refine wpR_v (OpV_assign rfl) rfl ?_
   refine wpR_nil ?_
   refine QE_then_n ?_
   refine wpC_seq ?_
   refine wpC_seq ?_
   refine wpC_region ?_
   refine wpR_v (OpV_move rfl) rfl ?_
   refine wpR_v (OpV_bin rfl rfl (b_isub _ a2 1)) rfl ?_
   refine wpR_v (OpV_assign rfl) rfl ?_
   refine wpR_nil ?_
   refine QE_then_n ?_
   refine wpC_block ?_
   refine wpC_le [(1, v64 a1), (9, v_8), (10, vI (wI (a2 - 1)))] ⟨rfl, rfl, rfl, trivial⟩ ?_
   refine loop_ind (F.law30_headed_L2 a1) (fun (s : List UInt8 × Int) L w => ∃ (v_11 : Value), L = [(1, v64 a1), (9, v_11), (10, vI s.2)] ∧ St [] w0 w [own e8 v_11 s.1]) ?_ ([UInt8.ofInt (wI ((wI (32 * a0)) + x_3))], wI (a2 - 1)) ⟨v_8, rfl, hS⟩ h
   rintro k_23 ⟨x_10, x_13⟩ L w q_16 hI ih_15 h hk_14
   try dsimp only at hI
   obtain ⟨v_11, rfl, hS⟩ := hI
   unfold F.law30_headed_L2 at h
   refine wpC_seq ?_
   refine wpC_seq ?_
   refine wpC_region ?_
   refine wpR_v (OpV_move rfl) rfl ?_
   refine wpR_v (OpV_bin rfl rfl (b_igeq _ x_13 0)) rfl ?_
   refine wpR_nil ?_
   refine QE_then_n ?_
   refine wpC_cond rfl (fun hb_22 => ?_) (fun hb_22 => ?_)
   ·have h := if_t h hb_22
    refine wpC_skip ?_
    refine QE_then_n ?_
    refine wpC_seq ?_
    refine wpC_block ?_
    refine wpC_region ?_
    refine wpR_v (OpV_move rfl) rfl ?_
    refine wpR_v (OpV_move rfl) rfl ?_
    refine wpR_v (OpV_move rfl) rfl ?_
    refine wpR_v (OpV_bin rfl rfl (b_imul _ 8 x_13)) rfl ?_
    refine wpR_v (OpV_conv rfl (cv_i_64 Tryd.underlying3 Tryd.underlying46 (wI (8 * x_13)))) rfl ?_
    refine wpR_v (OpV_bin rfl rfl (b_shr64_64 _ a1 (UInt64.ofInt (wI (8 * x_13))))) rfl ?_
    refine wpR_v (OpV_bin rfl rfl (b_and64 _ (shr64 a1 ((UInt64.ofInt (wI (8 * x_13))).toNat)) 255)) rfl ?_
    refine wpR_v (OpV_conv rfl (cv_64_8 Tryd.underlying31 Tryd.underlying5 ((shr64 a1 ((UInt64.ofInt (wI (8 * x_13))).toNat)) &&& 255))) rfl ?_
    refine wpR_x (OpX_lit (e := e8) (l := [((shr64 a1 ((UInt64.ofInt (wI (8 * x_13))).toNat)) &&& 255).toUInt8]) (vs := [v8 (((shr64 a1 ((UInt64.ofInt (wI (8 * x_13))).toNat)) &&& 255).toUInt8)]) Tryd.underlying25 ti5 rfl rfl rfl rfl (by decide) (by decide) hS) rfl ?_
    rintro v_17 w hS
    obtain ⟨x_19, hx_19, h⟩ := obind_some h
    refine wpR_x (G_append Tryd.underlying25 ti5 rfl rfl rfl hS (i := 1) rfl (hS.ro 0 rfl) hx_19) rfl ?_
    rintro v_20 w hS
    refine wpR_v (OpV_assign rfl) rfl ?_
    refine wpR_nil ?_
    refine QE_blk_n ?_
    refine QE_then_n ?_
    refine wpC_region ?_
    refine wpR_v (OpV_move rfl) rfl ?_
    refine wpR_v (OpV_bin rfl rfl (b_isub _ x_13 1)) rfl ?_
    refine wpR_v (OpV_assign rfl) rfl ?_
    refine wpR_nil ?_
    exact QE_rnd (wpN_le _ (by exact ⟨rfl, rfl, rfl, trivial⟩) (ih_15 (x_19, wI (x_13 - 1)) _ _ ⟨v_20, rfl, (hS.pick [1] (by decide) rfl)⟩ (oinl_some h hk_14)))
   ·have h := if_f h hb_22
    refine wpC_exit ?_
    refine QE_then_x ?_
    refine QE_then_x ?_
    have h := oinr_some h hk_14
    refine QE_blk_x ?_
    refine QE_then_n ?_
    refine wpC_seq ?_
    refine wpC_region ?_
    refine wpR_v (OpV_move rfl) rfl ?_
    refine wpR_v (OpV_assign rfl) rfl ?_
    refine wpR_nil ?_
    refine QE_then_n ?_
    refine wpC_ret ?_
    cases h
    exact QE_ret1 rfl rfl (hS.pick [0] (by decide) rfl)
theorem c_law30_longer (w0 : World) (a0 : Int)   (r : Int)
  (h : F.law30_longer a0 = some r) : Calls Tryd.prog 33 #[vI a0] w0 (Ret fun v w => v = vI r ∧ St [] w0 w []) := by
 refine calls_at 7 Tryd.func33 rfl rfl rfl ?_
 have hS := St.start w0
 refine wpC_le [(0, vI a0)] ⟨rfl, trivial⟩ ?_
 unfold F.law30_longer at h
 refine wpC_seq ?_
 refine wpC_region ?_
 refine wpR_v (OpV_assign rfl) rfl ?_
 refine wpR_nil ?_
 refine QE_then_n ?_
 refine wpC_seq ?_
 refine wpC_seq ?_
 refine wpC_region ?_
 refine wpR_v (OpV_move rfl) rfl ?_
 refine wpR_v (OpV_bin rfl rfl (b_ieql _ a0 0)) rfl ?_
 refine wpR_nil ?_
 refine QE_then_n ?_
 refine wpC_cond rfl (fun hb_1 => ?_) (fun hb_1 => ?_)
 ·have h := if_t h hb_1
  refine wpC_seq ?_
  refine wpC_region ?_
  refine wpR_v (OpV_assign rfl) rfl ?_
  refine wpR_nil ?_
  refine QE_then_n ?_
  refine wpC_ret ?_
  refine QE_then_r ?_
  cases h
  exact QE_ret1 rfl rfl ⟨rfl, hS⟩
 ·have h := if_f h hb_1
  refine wpC_skip ?_
  refine QE_then_n ?_
  refine wpC_seq ?_
  refine wpC_region ?_
  refine wpR_v (OpV_move rfl) rfl ?_
  refine wpR_v (OpV_bin rfl rfl (b_imul _ 2 a0)) rfl ?_
  refine wpR_v (OpV_assign rfl) rfl ?_
  refine wpR_nil ?_
  refine QE_then_n ?_
  refine wpC_ret ?_
  cases h
  exact QE_ret1 rfl rfl ⟨rfl, hS⟩
end Go.Proofs
