/- Walks: each Go function of package law30 computes its plain function. Written by a program of ours. -/
import Derived.Test.YtcdneplfgppapaaDoorZW0
import Derived.Test.YtcdneplfgppapaaDoorGkFlaw30
import Derived.Test.YtcdneplfgppapaaDoorZWcborc
import Derived.Test.YtcdneplfgppapaaDoorZWlaw30a
set_option linter.unusedVariables false
set_option linter.unusedSimpArgs false
set_option linter.unusedVariables false
set_option maxRecDepth 4000
namespace Go.Proofs
open Go Go.RowKit Go.Gk

theorem c_law30_awake (w0 : World)   (hT : TB [] w0) (r : Bool)
    (h : F.law30_awake  = some r) : Calls Tryd.prog 31 #[] w0 (Ret fun v w => v = vB r ∧ St [] w0 w []) := by
  refine calls_at 72 Tryd.func31 rfl rfl rfl ?_
  have hS := St.start w0
  refine wpC_le [] trivial ?_
  unfold F.law30_awake at h
  refine wpC_seq ?_
  refine wpC_region ?_
  refine wpR_v (OpV_assign rfl) rfl ?_
  refine wpR_nil ?_
  refine QE_then_n ?_
  refine wpC_seq ?_
  refine wpC_region ?_
  refine wpR_x (OpX_lit (e := e8) (l := [161, 97, 97, 130, 1, 245]) (vs := [v8 161, v8 97, v8 97, v8 130, v8 1, v8 245]) Tryd.underlying25 ti5 rfl rfl rfl rfl (by decide) (by decide) hS) rfl ?_
  rintro v_1 w hS
  obtain ⟨x_3, hx_3, h⟩ := obind_some h
  refine wpR_call (by kernel_rfl) rfl (c_cbor_Parse _ [161, 97, 97, 130, 1, 245] v_1  (hT.now hS.fr) (hS.ro 0 rfl).rp _ hx_3) rfl ?_
  rintro _ w ⟨v_4, rfl, hS1⟩
  have hS := hS.call hS1
  simp only [List.cons_append, List.nil_append] at hS
  refine wpR_v (OpV_move rfl) rfl ?_
  refine wpR_v (OpV_extract rfl rfl) rfl ?_
  refine wpR_v (OpV_extract rfl rfl) rfl ?_
  refine wpR_v (OpV_extract rfl rfl) rfl ?_
  refine wpR_v (OpV_assign rfl) rfl ?_
  refine wpR_v (OpV_assign rfl) rfl ?_
  refine wpR_v (OpV_assign rfl) rfl ?_
  refine wpR_nil ?_
  refine QE_then_n ?_
  refine wpC_seq ?_
  refine wpC_region ?_
  refine wpR_v (OpV_build (vs := [(0, vI 4, [vI 4]), (3, vI 2, [vI 2])]) (cells := [vI 4, v64 0, vS [], vI 2]) rfl lay33 ⟨rfl, rfl, trivial⟩ rfl) rfl ?_
  refine wpR_v (OpV_build (vs := [(0, vI 1, [vI 1]), (1, v64 99, [v64 99])]) (cells := [vI 1, v64 99, vS [], vI 0]) rfl lay33 ⟨rfl, rfl, trivial⟩ rfl) rfl ?_
  refine wpR_v (OpV_build (vs := [(0, vI 2, [vI 2]), (2, vS [120, 121], [vS [120, 121]])]) (cells := [vI 2, v64 0, vS [120, 121], vI 0]) rfl lay33 ⟨rfl, rfl, trivial⟩ rfl) rfl ?_
  refine wpR_x (OpX_litE (e := (eP eI (eP e64 (eP eS eI)))) (l := ([(4, 0, [], 2), (1, 99, [], 0), (2, 0, [120, 121], 0)] : List (Int × UInt64 × (List UInt8) × Int))) (vs := [(0, .agg #[vI 4, v64 0, vS [], vI 2], [vI 4, v64 0, vS [], vI 2]), (1, .agg #[vI 1, v64 99, vS [], vI 0], [vI 1, v64 99, vS [], vI 0]), (2, .agg #[vI 2, v64 0, vS [120, 121], vI 0], [vI 2, v64 0, vS [120, 121], vI 0])]) Tryd.underlying22 ti33 rfl ⟨rfl, rfl, rfl, trivial⟩ rfl rfl (Nat.le_of_ble_eq_true rfl) (Nat.le_of_ble_eq_true rfl) hS) rfl ?_
  rintro v_6 w hS
  obtain ⟨x_8, hx_8, h⟩ := obind_some h
  refine wpR_call (by kernel_rfl) rfl (c_cbor_Print _ ([(4, 0, [], 2), (1, 99, [], 0), (2, 0, [120, 121], 0)] : List (Int × UInt64 × (List UInt8) × Int)) v_6  (hT.now hS.fr) (hS.ro 0 rfl).rp _ hx_8) rfl ?_
  rintro _ w ⟨v_9, rfl, hS1⟩
  have hS := hS.call hS1
  simp only [List.cons_append, List.nil_append] at hS
  refine wpR_v (OpV_move rfl) rfl ?_
  refine wpR_v (OpV_extract rfl rfl) rfl ?_
  refine wpR_v (OpV_extract rfl rfl) rfl ?_
  refine wpR_v (OpV_assign rfl) rfl ?_
  refine wpR_v (OpV_assign rfl) rfl ?_
  refine wpR_nil ?_
  refine QE_then_n ?_
  refine wpC_seq ?_
  refine wpC_region ?_
  refine wpR_x (OpX_lit (e := e8) (l := [130, 24, 23, 0]) (vs := [v8 130, v8 24, v8 23, v8 0]) Tryd.underlying25 ti5 rfl rfl rfl rfl (by decide) (by decide) hS) rfl ?_
  rintro v_11 w hS
  obtain ⟨x_13, hx_13, h⟩ := obind_some h
  refine wpR_call (by kernel_rfl) rfl (c_cbor_Parse _ [130, 24, 23, 0] v_11  (hT.now hS.fr) (hS.ro 0 rfl).rp _ hx_13) rfl ?_
  rintro _ w ⟨v_14, rfl, hS1⟩
  have hS := hS.call hS1
  simp only [List.cons_append, List.nil_append] at hS
  refine wpR_v (OpV_move rfl) rfl ?_
  refine wpR_v (OpV_extract rfl rfl) rfl ?_
  refine wpR_v (OpV_extract rfl rfl) rfl ?_
  refine wpR_v (OpV_extract rfl rfl) rfl ?_
  refine wpR_v (OpV_assign rfl) rfl ?_
  refine wpR_v (OpV_assign rfl) rfl ?_
  refine wpR_v (OpV_assign rfl) rfl ?_
  refine wpR_nil ?_
  refine QE_then_n ?_
  refine wpC_seq ?_
  refine seq_join (r := r) (fun (g : Bool) L w => L = [(1, v_4), (4, v_9), (61, vB g)] ∧ St [] w0 w [own (eP eI (eP e64 (eP eS eI))) v_4 x_3.1, own e8 v_9 x_8.1]) (F.law30_awake_K1 x_3 x_8) ?_ ?_
  · rintro x_24 L w hJ h
    try dsimp only at hJ
    obtain ⟨rfl, hS⟩ := hJ
    unfold F.law30_awake_K1 at h
    refine wpC_cond rfl (fun hb_33 => ?_) (fun hb_33 => ?_)
    · have h := if_t h hb_33
      refine wpC_seq ?_
      refine wpC_region ?_
      refine wpR_v (OpV_assign rfl) rfl ?_
      refine wpR_nil ?_
      refine QE_then_n ?_
      refine wpC_ret ?_
      refine QE_then_r ?_
      cases h
      exact QE_ret1 rfl rfl ⟨rfl, hS.pick [] (by decide) rfl⟩
    · have h := if_f h hb_33
      refine wpC_skip ?_
      refine QE_then_n ?_
      refine wpC_seq ?_
      refine wpC_region ?_
      refine wpR_v (OpV_move rfl) rfl ?_
      refine wpR_x (OpX_lit (e := e8) (l := [130, 56, 99, 66, 120, 121]) (vs := [v8 130, v8 56, v8 99, v8 66, v8 120, v8 121]) Tryd.underlying25 ti5 rfl rfl rfl rfl (by decide) (by decide) hS) rfl ?_
      rintro v_26 w hS
      obtain ⟨x_28, hx_28, h⟩ := obind_some h
      refine wpR_call (by kernel_rfl) rfl (c_law30_sameBytes _ x_8.1 [130, 56, 99, 66, 120, 121] v_9 v_26  (hS.ro 2 rfl).rp (hS.ro 0 rfl).rp _ hx_28) rfl ?_
      rintro _ w ⟨rfl, hS1⟩
      have hS := hS.call hS1
      simp only [List.cons_append, List.nil_append] at hS
      refine wpR_v (OpV_move rfl) rfl ?_
      cases hb_29 : x_28
      case true =>
        have h := if_t h hb_29
        try simp only [hb_29]
        refine wpR_gv (t := 65) rfl rfl (OpV_move rfl) rfl ?_
        refine wpR_gv (t := 65) rfl rfl (OpV_build (vs := [(0, vI 3, [vI 3]), (2, vS [97], [vS [97]])]) (cells := [vI 3, v64 0, vS [97], vI 0]) rfl lay33 ⟨rfl, rfl, trivial⟩ rfl) rfl ?_
        refine wpR_gx (t := 65) rfl rfl (OpX_litE (e := (eP eI (eP e64 (eP eS eI)))) (l := ([(3, 0, [97], 0)] : List (Int × UInt64 × (List UInt8) × Int))) (vs := [(0, .agg #[vI 3, v64 0, vS [97], vI 0], [vI 3, v64 0, vS [97], vI 0])]) Tryd.underlying22 ti33 rfl ⟨rfl, trivial⟩ rfl rfl (Nat.le_of_ble_eq_true rfl) (Nat.le_of_ble_eq_true rfl) hS) rfl ?_
        rintro v_30 w hS
        obtain ⟨x_32, hx_32, h⟩ := obind_some h
        refine wpR_gcall (t := 65) rfl rfl (by kernel_rfl) rfl (c_cbor_Member _ x_3.1 0 ([(3, 0, [97], 0)] : List (Int × UInt64 × (List UInt8) × Int)) v_4 v_30  (hT.now hS.fr) (hS.ro 2 rfl).rp (hS.ro 0 rfl).rp _ hx_32) rfl ?_
        rintro _ w ⟨rfl, hS1⟩
        have hS := hS.call hS1
        simp only [List.cons_append, List.nil_append] at hS
        refine wpR_gv (t := 65) rfl rfl (OpV_bin rfl rfl (b_ieql _ x_32 2)) rfl ?_
        refine wpR_v (OpV_pickT rfl rfl) rfl ?_
        refine wpR_v (OpV_assign rfl) rfl ?_
        refine wpR_nil ?_
        refine QE_then_n ?_
        refine wpC_ret ?_
        cases h
        exact QE_ret1 rfl rfl ⟨rfl, hS.pick [] (by decide) rfl⟩
      case false =>
        have h := if_f h hb_29
        try simp only [hb_29]
        refine wpR_gskip (b := false) (t := 65) rfl rfl rfl rfl ?_
        refine wpR_gskip (b := false) (t := 65) rfl rfl rfl rfl ?_
        refine wpR_gskip (b := false) (t := 65) rfl rfl rfl rfl ?_
        refine wpR_gskip (b := false) (t := 65) rfl rfl rfl rfl ?_
        refine wpR_gskip (b := false) (t := 65) rfl rfl rfl rfl ?_
        refine wpR_v (OpV_pickF rfl rfl) rfl ?_
        refine wpR_v (OpV_assign rfl) rfl ?_
        refine wpR_nil ?_
        refine QE_then_n ?_
        refine wpC_ret ?_
        cases h
        exact QE_ret1 rfl rfl ⟨rfl, hS.pick [] (by decide) rfl⟩
  · intro hK_25
    refine wpC_region ?_
    refine wpR_v (OpV_move rfl) rfl ?_
    refine wpR_v (OpV_bin rfl rfl (b_ineq _ x_3.2.1 0)) rfl ?_
    refine wpR_v (OpV_move rfl) rfl ?_
    cases hb_16 : (x_3.2.1 != 0)
    case true =>
      have h := if_t h hb_16
      try simp only [hb_16]
      refine wpR_gskip (b := true) (t := 31) rfl rfl rfl rfl ?_
      refine wpR_gskip (b := true) (t := 31) rfl rfl rfl rfl ?_
      refine wpR_v (OpV_pickT rfl rfl) rfl ?_
      refine wpR_v (OpV_move rfl) rfl ?_
      refine wpR_gskip (b := true) (t := 35) rfl rfl rfl rfl ?_
      refine wpR_gskip (b := true) (t := 35) rfl rfl rfl rfl ?_
      refine wpR_v (OpV_pickT rfl rfl) rfl ?_
      refine wpR_v (OpV_move rfl) rfl ?_
      refine wpR_gskip (b := true) (t := 39) rfl rfl rfl rfl ?_
      refine wpR_gskip (b := true) (t := 39) rfl rfl rfl rfl ?_
      refine wpR_v (OpV_pickT rfl rfl) rfl ?_
      refine wpR_v (OpV_move rfl) rfl ?_
      refine wpR_gskip (b := true) (t := 43) rfl rfl rfl rfl ?_
      refine wpR_gskip (b := true) (t := 43) rfl rfl rfl rfl ?_
      refine wpR_gskip (b := true) (t := 43) rfl rfl rfl rfl ?_
      refine wpR_v (OpV_pickT rfl rfl) rfl ?_
      refine wpR_v (OpV_move rfl) rfl ?_
      refine wpR_gskip (b := true) (t := 48) rfl rfl rfl rfl ?_
      refine wpR_gskip (b := true) (t := 48) rfl rfl rfl rfl ?_
      refine wpR_gskip (b := true) (t := 48) rfl rfl rfl rfl ?_
      refine wpR_gskip (b := true) (t := 48) rfl rfl rfl rfl ?_
      refine wpR_gskip (b := true) (t := 48) rfl rfl rfl rfl ?_
      refine wpR_v (OpV_pickT rfl rfl) rfl ?_
      refine wpR_v (OpV_move rfl) rfl ?_
      refine wpR_gskip (b := true) (t := 55) rfl rfl rfl rfl ?_
      refine wpR_gskip (b := true) (t := 55) rfl rfl rfl rfl ?_
      refine wpR_gskip (b := true) (t := 55) rfl rfl rfl rfl ?_
      refine wpR_gskip (b := true) (t := 55) rfl rfl rfl rfl ?_
      refine wpR_gskip (b := true) (t := 55) rfl rfl rfl rfl ?_
      refine wpR_v (OpV_pickT rfl rfl) rfl ?_
      refine wpR_nil ?_
      refine QE_then_n ?_
      exact wpC_le _ (by exact ⟨rfl, rfl, rfl, trivial⟩) (hK_25 true _ _ ⟨rfl, (hS.pick [4, 2] (by decide) rfl)⟩ h)
    case false =>
      have h := if_f h hb_16
      try simp only [hb_16]
      refine wpR_gv (t := 31) rfl rfl (OpV_move rfl) rfl ?_
      refine wpR_gv (t := 31) rfl rfl (OpV_bin rfl rfl (b_ineq _ x_8.2 0)) rfl ?_
      refine wpR_v (OpV_pickF rfl rfl) rfl ?_
      refine wpR_v (OpV_move rfl) rfl ?_
      cases hb_17 : (x_8.2 != 0)
      case true =>
        have h := if_t h hb_17
        try simp only [hb_17]
        refine wpR_gskip (b := true) (t := 35) rfl rfl rfl rfl ?_
        refine wpR_gskip (b := true) (t := 35) rfl rfl rfl rfl ?_
        refine wpR_v (OpV_pickT rfl rfl) rfl ?_
        refine wpR_v (OpV_move rfl) rfl ?_
        refine wpR_gskip (b := true) (t := 39) rfl rfl rfl rfl ?_
        refine wpR_gskip (b := true) (t := 39) rfl rfl rfl rfl ?_
        refine wpR_v (OpV_pickT rfl rfl) rfl ?_
        refine wpR_v (OpV_move rfl) rfl ?_
        refine wpR_gskip (b := true) (t := 43) rfl rfl rfl rfl ?_
        refine wpR_gskip (b := true) (t := 43) rfl rfl rfl rfl ?_
        refine wpR_gskip (b := true) (t := 43) rfl rfl rfl rfl ?_
        refine wpR_v (OpV_pickT rfl rfl) rfl ?_
        refine wpR_v (OpV_move rfl) rfl ?_
        refine wpR_gskip (b := true) (t := 48) rfl rfl rfl rfl ?_
        refine wpR_gskip (b := true) (t := 48) rfl rfl rfl rfl ?_
        refine wpR_gskip (b := true) (t := 48) rfl rfl rfl rfl ?_
        refine wpR_gskip (b := true) (t := 48) rfl rfl rfl rfl ?_
        refine wpR_gskip (b := true) (t := 48) rfl rfl rfl rfl ?_
        refine wpR_v (OpV_pickT rfl rfl) rfl ?_
        refine wpR_v (OpV_move rfl) rfl ?_
        refine wpR_gskip (b := true) (t := 55) rfl rfl rfl rfl ?_
        refine wpR_gskip (b := true) (t := 55) rfl rfl rfl rfl ?_
        refine wpR_gskip (b := true) (t := 55) rfl rfl rfl rfl ?_
        refine wpR_gskip (b := true) (t := 55) rfl rfl rfl rfl ?_
        refine wpR_gskip (b := true) (t := 55) rfl rfl rfl rfl ?_
        refine wpR_v (OpV_pickT rfl rfl) rfl ?_
        refine wpR_nil ?_
        refine QE_then_n ?_
        exact wpC_le _ (by exact ⟨rfl, rfl, rfl, trivial⟩) (hK_25 true _ _ ⟨rfl, (hS.pick [4, 2] (by decide) rfl)⟩ h)
      case false =>
        have h := if_f h hb_17
        try simp only [hb_17]
        refine wpR_gv (t := 35) rfl rfl (OpV_move rfl) rfl ?_
        refine wpR_gv (t := 35) rfl rfl (OpV_bin rfl rfl (b_ineq _ x_13.2.1 220)) rfl ?_
        refine wpR_v (OpV_pickF rfl rfl) rfl ?_
        refine wpR_v (OpV_move rfl) rfl ?_
        cases hb_18 : (x_13.2.1 != 220)
        case true =>
          have h := if_t h hb_18
          try simp only [hb_18]
          refine wpR_gskip (b := true) (t := 39) rfl rfl rfl rfl ?_
          refine wpR_gskip (b := true) (t := 39) rfl rfl rfl rfl ?_
          refine wpR_v (OpV_pickT rfl rfl) rfl ?_
          refine wpR_v (OpV_move rfl) rfl ?_
          refine wpR_gskip (b := true) (t := 43) rfl rfl rfl rfl ?_
          refine wpR_gskip (b := true) (t := 43) rfl rfl rfl rfl ?_
          refine wpR_gskip (b := true) (t := 43) rfl rfl rfl rfl ?_
          refine wpR_v (OpV_pickT rfl rfl) rfl ?_
          refine wpR_v (OpV_move rfl) rfl ?_
          refine wpR_gskip (b := true) (t := 48) rfl rfl rfl rfl ?_
          refine wpR_gskip (b := true) (t := 48) rfl rfl rfl rfl ?_
          refine wpR_gskip (b := true) (t := 48) rfl rfl rfl rfl ?_
          refine wpR_gskip (b := true) (t := 48) rfl rfl rfl rfl ?_
          refine wpR_gskip (b := true) (t := 48) rfl rfl rfl rfl ?_
          refine wpR_v (OpV_pickT rfl rfl) rfl ?_
          refine wpR_v (OpV_move rfl) rfl ?_
          refine wpR_gskip (b := true) (t := 55) rfl rfl rfl rfl ?_
          refine wpR_gskip (b := true) (t := 55) rfl rfl rfl rfl ?_
          refine wpR_gskip (b := true) (t := 55) rfl rfl rfl rfl ?_
          refine wpR_gskip (b := true) (t := 55) rfl rfl rfl rfl ?_
          refine wpR_gskip (b := true) (t := 55) rfl rfl rfl rfl ?_
          refine wpR_v (OpV_pickT rfl rfl) rfl ?_
          refine wpR_nil ?_
          refine QE_then_n ?_
          exact wpC_le _ (by exact ⟨rfl, rfl, rfl, trivial⟩) (hK_25 true _ _ ⟨rfl, (hS.pick [4, 2] (by decide) rfl)⟩ h)
        case false =>
          have h := if_f h hb_18
          try simp only [hb_18]
          refine wpR_gv (t := 39) rfl rfl (OpV_move rfl) rfl ?_
          refine wpR_gv (t := 39) rfl rfl (OpV_bin rfl rfl (b_ineq _ x_13.2.2 1)) rfl ?_
          refine wpR_v (OpV_pickF rfl rfl) rfl ?_
          refine wpR_v (OpV_move rfl) rfl ?_
          cases hb_19 : (x_13.2.2 != 1)
          case true =>
            have h := if_t h hb_19
            try simp only [hb_19]
            refine wpR_gskip (b := true) (t := 43) rfl rfl rfl rfl ?_
            refine wpR_gskip (b := true) (t := 43) rfl rfl rfl rfl ?_
            refine wpR_gskip (b := true) (t := 43) rfl rfl rfl rfl ?_
            refine wpR_v (OpV_pickT rfl rfl) rfl ?_
            refine wpR_v (OpV_move rfl) rfl ?_
            refine wpR_gskip (b := true) (t := 48) rfl rfl rfl rfl ?_
            refine wpR_gskip (b := true) (t := 48) rfl rfl rfl rfl ?_
            refine wpR_gskip (b := true) (t := 48) rfl rfl rfl rfl ?_
            refine wpR_gskip (b := true) (t := 48) rfl rfl rfl rfl ?_
            refine wpR_gskip (b := true) (t := 48) rfl rfl rfl rfl ?_
            refine wpR_v (OpV_pickT rfl rfl) rfl ?_
            refine wpR_v (OpV_move rfl) rfl ?_
            refine wpR_gskip (b := true) (t := 55) rfl rfl rfl rfl ?_
            refine wpR_gskip (b := true) (t := 55) rfl rfl rfl rfl ?_
            refine wpR_gskip (b := true) (t := 55) rfl rfl rfl rfl ?_
            refine wpR_gskip (b := true) (t := 55) rfl rfl rfl rfl ?_
            refine wpR_gskip (b := true) (t := 55) rfl rfl rfl rfl ?_
            refine wpR_v (OpV_pickT rfl rfl) rfl ?_
            refine wpR_nil ?_
            refine QE_then_n ?_
            exact wpC_le _ (by exact ⟨rfl, rfl, rfl, trivial⟩) (hK_25 true _ _ ⟨rfl, (hS.pick [4, 2] (by decide) rfl)⟩ h)
          case false =>
            have h := if_f h hb_19
            try simp only [hb_19]
            refine wpR_gv (t := 43) rfl rfl (OpV_move rfl) rfl ?_
            refine wpR_gv (t := 43) rfl rfl (OpV_len Tryd.underlying22 rfl (hS.ro 4 rfl)) rfl ?_
            refine wpR_gv (t := 43) rfl rfl (OpV_bin rfl rfl (b_ineq _ (x_3.1.length : Int) 5)) rfl ?_
            refine wpR_v (OpV_pickF rfl rfl) rfl ?_
            refine wpR_v (OpV_move rfl) rfl ?_
            cases hb_20 : ((x_3.1.length : Int) != 5)
            case true =>
              have h := if_t h hb_20
              try simp only [hb_20]
              refine wpR_gskip (b := true) (t := 48) rfl rfl rfl rfl ?_
              refine wpR_gskip (b := true) (t := 48) rfl rfl rfl rfl ?_
              refine wpR_gskip (b := true) (t := 48) rfl rfl rfl rfl ?_
              refine wpR_gskip (b := true) (t := 48) rfl rfl rfl rfl ?_
              refine wpR_gskip (b := true) (t := 48) rfl rfl rfl rfl ?_
              refine wpR_v (OpV_pickT rfl rfl) rfl ?_
              refine wpR_v (OpV_move rfl) rfl ?_
              refine wpR_gskip (b := true) (t := 55) rfl rfl rfl rfl ?_
              refine wpR_gskip (b := true) (t := 55) rfl rfl rfl rfl ?_
              refine wpR_gskip (b := true) (t := 55) rfl rfl rfl rfl ?_
              refine wpR_gskip (b := true) (t := 55) rfl rfl rfl rfl ?_
              refine wpR_gskip (b := true) (t := 55) rfl rfl rfl rfl ?_
              refine wpR_v (OpV_pickT rfl rfl) rfl ?_
              refine wpR_nil ?_
              refine QE_then_n ?_
              exact wpC_le _ (by exact ⟨rfl, rfl, rfl, trivial⟩) (hK_25 true _ _ ⟨rfl, (hS.pick [4, 2] (by decide) rfl)⟩ h)
            case false =>
              have h := if_f h hb_20
              try simp only [hb_20]
              refine wpR_gv (t := 48) rfl rfl (OpV_move rfl) rfl ?_
              obtain ⟨x_21, hx_21, h⟩ := obind_some h
              refine wpR_gv (t := 48) rfl rfl (G_ix Tryd.underlying22 ti33 rfl rfl (hS.ro 4 rfl) hx_21) rfl ?_
              refine wpR_gv (t := 48) rfl rfl (OpV_fieldE (k := 2) Tryd.underlying33 rfl rfl nz9 rfl) rfl ?_
              refine wpR_gv (t := 48) rfl rfl (G_loadF Tryd.underlying9 rfl rfl (hS.ro 4 rfl) hx_21 rfl rfl) rfl ?_
              refine wpR_gv (t := 48) rfl rfl (OpV_bin rfl rfl (b_sneq _ x_21.2.2.1 [97])) rfl ?_
              refine wpR_v (OpV_pickF rfl rfl) rfl ?_
              refine wpR_v (OpV_move rfl) rfl ?_
              cases hb_22 : (x_21.2.2.1 != [97])
              case true =>
                have h := if_t h hb_22
                try simp only [hb_22]
                refine wpR_gskip (b := true) (t := 55) rfl rfl rfl rfl ?_
                refine wpR_gskip (b := true) (t := 55) rfl rfl rfl rfl ?_
                refine wpR_gskip (b := true) (t := 55) rfl rfl rfl rfl ?_
                refine wpR_gskip (b := true) (t := 55) rfl rfl rfl rfl ?_
                refine wpR_gskip (b := true) (t := 55) rfl rfl rfl rfl ?_
                refine wpR_v (OpV_pickT rfl rfl) rfl ?_
                refine wpR_nil ?_
                refine QE_then_n ?_
                exact wpC_le _ (by exact ⟨rfl, rfl, rfl, trivial⟩) (hK_25 true _ _ ⟨rfl, (hS.pick [4, 2] (by decide) rfl)⟩ h)
              case false =>
                have h := if_f h hb_22
                try simp only [hb_22]
                refine wpR_gv (t := 55) rfl rfl (OpV_move rfl) rfl ?_
                obtain ⟨x_23, hx_23, h⟩ := obind_some h
                refine wpR_gv (t := 55) rfl rfl (G_ix Tryd.underlying22 ti33 rfl rfl (hS.ro 4 rfl) hx_23) rfl ?_
                refine wpR_gv (t := 55) rfl rfl (OpV_fieldE (k := 1) Tryd.underlying33 rfl rfl nz31 rfl) rfl ?_
                refine wpR_gv (t := 55) rfl rfl (G_loadF Tryd.underlying31 rfl rfl (hS.ro 4 rfl) hx_23 rfl rfl) rfl ?_
                refine wpR_gv (t := 55) rfl rfl (OpV_bin rfl rfl (b_neq64 _ x_23.2.1 21)) rfl ?_
                refine wpR_v (OpV_pickF rfl rfl) rfl ?_
                refine wpR_nil ?_
                refine QE_then_n ?_
                exact wpC_le _ (by exact ⟨rfl, rfl, rfl, trivial⟩) (hK_25 (x_23.2.1 != 21) _ _ ⟨rfl, (hS.pick [4, 2] (by decide) rfl)⟩ h)

theorem c_law30_CborOne (w0 : World) (a0 : List UInt8) (a1 : List UInt8) (va0 : Value) (va1 : Value) (hT : TB [] w0) (ha0 : RP [] w0 e8 va0 a0) (ha1 : RP [] w0 e8 va1 a1) (r : Bool)
    (h : F.law30_CborOne a0 a1 = some r) : Calls Tryd.prog 6 #[va0, va1] w0 (Ret fun v w => v = vB r ∧ St [] w0 w []) := by
  refine calls_at 61 Tryd.func6 rfl rfl rfl ?_
  have hS := St.start w0
  refine wpC_le [(0, va0), (1, va1)] ⟨rfl, rfl, trivial⟩ ?_
  unfold F.law30_CborOne at h
  refine wpC_seq ?_
  refine wpC_region ?_
  refine wpR_v (OpV_assign rfl) rfl ?_
  refine wpR_nil ?_
  refine QE_then_n ?_
  refine wpC_seq ?_
  refine wpC_seq ?_
  refine wpC_region ?_
  obtain ⟨x_1, hx_1, h⟩ := obind_some h
  refine wpR_call (by kernel_rfl) rfl (c_law30_awake _    (hT.now hS.fr) _ hx_1) rfl ?_
  rintro _ w ⟨rfl, hS1⟩
  have hS := hS.call hS1
  simp only [List.cons_append, List.nil_append] at hS
  refine wpR_v (OpV_un rfl (u_not x_1)) rfl ?_
  refine wpR_nil ?_
  refine QE_then_n ?_
  refine wpC_cond rfl (fun hb_24 => ?_) (fun hb_24 => ?_)
  · have h := if_t h hb_24
    refine wpC_seq ?_
    refine wpC_region ?_
    refine wpR_v (OpV_assign rfl) rfl ?_
    refine wpR_nil ?_
    refine QE_then_n ?_
    refine wpC_ret ?_
    refine QE_then_r ?_
    cases h
    exact QE_ret1 rfl rfl ⟨rfl, hS⟩
  · have h := if_f h hb_24
    refine wpC_skip ?_
    refine QE_then_n ?_
    refine wpC_seq ?_
    refine wpC_region ?_
    refine wpR_v (OpV_move rfl) rfl ?_
    obtain ⟨x_2, hx_2, h⟩ := obind_some h
    refine wpR_call (by kernel_rfl) rfl (c_cbor_Parse _ a0 va0  (hT.now hS.fr) (ha0.now hS.fr).rp _ hx_2) rfl ?_
    rintro _ w ⟨v_3, rfl, hS1⟩
    have hS := hS.call hS1
    simp only [List.cons_append, List.nil_append] at hS
    refine wpR_v (OpV_move rfl) rfl ?_
    refine wpR_v (OpV_extract rfl rfl) rfl ?_
    refine wpR_v (OpV_extract rfl rfl) rfl ?_
    refine wpR_v (OpV_extract rfl rfl) rfl ?_
    refine wpR_v (OpV_assign rfl) rfl ?_
    refine wpR_v (OpV_assign rfl) rfl ?_
    refine wpR_v (OpV_assign rfl) rfl ?_
    refine wpR_nil ?_
    refine QE_then_n ?_
    refine wpC_seq ?_
    refine wpC_region ?_
    refine wpR_v (OpV_move rfl) rfl ?_
    obtain ⟨x_5, hx_5, h⟩ := obind_some h
    refine wpR_call (by kernel_rfl) rfl (c_cbor_Parse _ a1 va1  (hT.now hS.fr) (ha1.now hS.fr).rp _ hx_5) rfl ?_
    rintro _ w ⟨v_6, rfl, hS1⟩
    have hS := hS.call hS1
    simp only [List.cons_append, List.nil_append] at hS
    refine wpR_v (OpV_move rfl) rfl ?_
    refine wpR_v (OpV_extract rfl rfl) rfl ?_
    refine wpR_v (OpV_extract rfl rfl) rfl ?_
    refine wpR_v (OpV_extract rfl rfl) rfl ?_
    refine wpR_v (OpV_assign rfl) rfl ?_
    refine wpR_v (OpV_assign rfl) rfl ?_
    refine wpR_v (OpV_assign rfl) rfl ?_
    refine wpR_nil ?_
    refine QE_then_n ?_
    refine wpC_seq ?_
    refine seq_join (r := r) (fun (g : Bool) L w => L = [(0, va0), (1, va1), (5, v_3), (8, v_6), (31, vB g)] ∧ St [] w0 w [own (eP eI (eP e64 (eP eS eI))) v_3 x_2.1, own (eP eI (eP e64 (eP eS eI))) v_6 x_5.1]) (F.law30_CborOne_K1 a0 a1 x_2 x_5) ?_ ?_
    · rintro x_9 L w hJ h
      try dsimp only at hJ
      obtain ⟨rfl, hS⟩ := hJ
      unfold F.law30_CborOne_K1 at h
      refine wpC_cond rfl (fun hb_23 => ?_) (fun hb_23 => ?_)
      · have h := if_t h hb_23
        refine wpC_seq ?_
        refine wpC_region ?_
        refine wpR_v (OpV_assign rfl) rfl ?_
        refine wpR_nil ?_
        refine QE_then_n ?_
        refine wpC_ret ?_
        refine QE_then_r ?_
        cases h
        exact QE_ret1 rfl rfl ⟨rfl, hS.pick [] (by decide) rfl⟩
      · have h := if_f h hb_23
        refine wpC_skip ?_
        refine QE_then_n ?_
        refine wpC_seq ?_
        refine wpC_region ?_
        refine wpR_v (OpV_move rfl) rfl ?_
        refine wpR_v (OpV_len Tryd.underlying25 rfl (ha0.now hS.fr)) rfl ?_
        refine wpR_v (OpV_assign rfl) rfl ?_
        refine wpR_nil ?_
        refine QE_then_n ?_
        refine seq_join (r := r) (fun (g : Int) L w => L = [(0, va0), (1, va1), (5, v_3), (8, v_6), (11, vI g)] ∧ St [] w0 w [own (eP eI (eP e64 (eP eS eI))) v_3 x_2.1, own (eP eI (eP e64 (eP eS eI))) v_6 x_5.1]) (F.law30_CborOne_K2 a0 a1 x_2 x_5) ?_ ?_
        · rintro x_12 L w hJ h
          try dsimp only at hJ
          obtain ⟨rfl, hS⟩ := hJ
          unfold F.law30_CborOne_K2 at h
          refine wpC_seq ?_
          refine seq_join (r := r) (fun (g : Bool) L w => L = [(0, va0), (1, va1), (5, v_3), (8, v_6), (53, vB g)] ∧ St [] w0 w [own (eP eI (eP e64 (eP eS eI))) v_3 x_2.1, own (eP eI (eP e64 (eP eS eI))) v_6 x_5.1]) (F.law30_CborOne_K3 a0 a1 x_2 x_5) ?_ ?_
          · rintro x_18 L w hJ h
            try dsimp only at hJ
            obtain ⟨rfl, hS⟩ := hJ
            unfold F.law30_CborOne_K3 at h
            refine wpC_cond rfl (fun hb_22 => ?_) (fun hb_22 => ?_)
            · have h := if_t h hb_22
              refine wpC_seq ?_
              refine wpC_region ?_
              refine wpR_v (OpV_assign rfl) rfl ?_
              refine wpR_nil ?_
              refine QE_then_n ?_
              refine wpC_ret ?_
              refine QE_then_r ?_
              cases h
              exact QE_ret1 rfl rfl ⟨rfl, hS.pick [] (by decide) rfl⟩
            · have h := if_f h hb_22
              refine wpC_skip ?_
              refine QE_then_n ?_
              refine wpC_seq ?_
              refine wpC_region ?_
              refine wpR_v (OpV_move rfl) rfl ?_
              refine wpR_v (OpV_move rfl) rfl ?_
              obtain ⟨x_20, hx_20, h⟩ := obind_some h
              refine wpR_call (by kernel_rfl) rfl (c_law30_same _ x_2.1 x_5.1 v_3 v_6  (hS.ro 0 rfl).rp (hS.ro 1 rfl).rp _ hx_20) rfl ?_
              rintro _ w ⟨rfl, hS1⟩
              have hS := hS.call hS1
              simp only [List.cons_append, List.nil_append] at hS
              refine wpR_v (OpV_move rfl) rfl ?_
              refine wpR_v (OpV_move rfl) rfl ?_
              obtain ⟨x_21, hx_21, h⟩ := obind_some h
              refine wpR_call (by kernel_rfl) rfl (c_law30_sameBytes _ a0 a1 va0 va1  (ha0.now hS.fr).rp (ha1.now hS.fr).rp _ hx_21) rfl ?_
              rintro _ w ⟨rfl, hS1⟩
              have hS := hS.call hS1
              simp only [List.cons_append, List.nil_append] at hS
              refine wpR_v (OpV_bin rfl rfl (b_beql _ x_20 x_21 Tryd.underlying4 rfl)) rfl ?_
              refine wpR_v (OpV_assign rfl) rfl ?_
              refine wpR_nil ?_
              refine QE_then_n ?_
              refine wpC_ret ?_
              cases h
              exact QE_ret1 rfl rfl ⟨rfl, hS.pick [] (by decide) rfl⟩
          · intro hK_19
            refine wpC_regionT (fun w' => St [] w0 w' [own (eP eI (eP e64 (eP eS eI))) v_3 x_2.1, own (eP eI (eP e64 (eP eS eI))) v_6 x_5.1]) (fun i => !([6].contains i)) hmix (fun _ _ _ hf => hf.2) (fun _ _ hf => hf) (by kernel_rfl) ?_
            have hS := hS.drew
            show lxE _ _ _ _ _ _ _ [0, 1, 2, 3, 4, 5, 6, 7, 8, 9, 10, 11, 12, 13] _ _
            refine lxE_v hS rfl rfl (fun w hF => OpV_move rfl) rfl ?_
            refine lxE_v hS rfl rfl (fun w hF => OpV_move rfl) rfl ?_
            obtain ⟨x_14, hx_14, h⟩ := obind_some h
            refine lxE_v hS rfl rfl (fun w hF => G_slh Tryd.underlying25 ti5 rfl rfl (ha0.now hF.fr) hx_14) rfl ?_
            refine lxE_v hS rfl rfl (fun w hF => OpV_move rfl) rfl ?_
            refine lxE_v hS rfl rfl (fun w hF => OpV_move rfl) rfl ?_
            obtain ⟨x_15, hx_15, h⟩ := obind_some h
            refine lxE_v hS rfl rfl (fun w hF => G_slh Tryd.underlying25 ti5 rfl rfl (ha1.now hF.fr) hx_15) rfl ?_
            obtain ⟨x_16, hx_16, h⟩ := obind_some h
            refine lxE_call hS rfl rfl (by kernel_rfl) rfl (c_law30_sameBytes _ x_14 x_15 (slV va0 e8.sz 0 ((x_12 : Int).toNat)) (slV va1 e8.sz 0 ((x_12 : Int).toNat))  ((ha0.g_slh hx_14).now hS.fr).rp ((ha1.g_slh hx_15).now hS.fr).rp _ hx_16) rfl ?_
            rintro _ w ⟨rfl, hS1⟩
            have hS := hS.call hS1
            simp only [List.cons_append, List.nil_append] at hS
            refine lxE_v hS rfl rfl (fun w hF => OpV_move rfl) rfl ?_
            cases hb_17 : x_16
            case true =>
              have h := if_t h hb_17
              try simp only [hb_17]
              refine lxE_gv (t := 47) hS rfl rfl rfl rfl (fun w hF => OpV_move rfl) rfl ?_
              refine lxE_gv (t := 47) hS rfl rfl rfl rfl (fun w hF => OpV_len Tryd.underlying25 rfl (ha0.now hF.fr)) rfl ?_
              refine lxE_gv (t := 47) hS rfl rfl rfl rfl (fun w hF => OpV_move rfl) rfl ?_
              refine lxE_gv (t := 47) hS rfl rfl rfl rfl (fun w hF => OpV_len Tryd.underlying25 rfl (ha1.now hF.fr)) rfl ?_
              refine lxE_gv (t := 47) hS rfl rfl rfl rfl (fun w hF => OpV_bin rfl rfl (b_ineq _ (a0.length : Int) (a1.length : Int))) rfl ?_
              refine lxE_v hS rfl rfl (fun w hF => OpV_pickT rfl rfl) rfl ?_
              refine lxE_nil hS ?_
              refine QE_then_n ?_
              exact wpC_le _ (by exact ⟨rfl, rfl, rfl, rfl, rfl, trivial⟩) (hK_19 ((a0.length : Int) != (a1.length : Int)) _ _ ⟨rfl, hS⟩ h)
            case false =>
              have h := if_f h hb_17
              try simp only [hb_17]
              refine lxE_gskip (b := false) (t := 47) hS rfl rfl rfl rfl rfl rfl ?_
              refine lxE_gskip (b := false) (t := 47) hS rfl rfl rfl rfl rfl rfl ?_
              refine lxE_gskip (b := false) (t := 47) hS rfl rfl rfl rfl rfl rfl ?_
              refine lxE_gskip (b := false) (t := 47) hS rfl rfl rfl rfl rfl rfl ?_
              refine lxE_gskip (b := false) (t := 47) hS rfl rfl rfl rfl rfl rfl ?_
              refine lxE_v hS rfl rfl (fun w hF => OpV_pickF rfl rfl) rfl ?_
              refine lxE_nil hS ?_
              refine QE_then_n ?_
              exact wpC_le _ (by exact ⟨rfl, rfl, rfl, rfl, rfl, trivial⟩) (hK_19 false _ _ ⟨rfl, hS⟩ h)
        · intro hK_13
          refine wpC_seq ?_
          refine wpC_region ?_
          refine wpR_v (OpV_move rfl) rfl ?_
          refine wpR_v (OpV_len Tryd.underlying25 rfl (ha1.now hS.fr)) rfl ?_
          refine wpR_v (OpV_move rfl) rfl ?_
          refine wpR_v (OpV_bin rfl rfl (b_ilss _ (a1.length : Int) (a0.length : Int))) rfl ?_
          refine wpR_nil ?_
          refine QE_then_n ?_
          refine wpC_cond rfl (fun hb_11 => ?_) (fun hb_11 => ?_)
          · have h := if_t h hb_11
            refine wpC_region ?_
            refine wpR_v (OpV_move rfl) rfl ?_
            refine wpR_v (OpV_len Tryd.underlying25 rfl (ha1.now hS.fr)) rfl ?_
            refine wpR_v (OpV_assign rfl) rfl ?_
            refine wpR_nil ?_
            refine QE_then_n ?_
            exact wpC_le _ (by exact ⟨rfl, rfl, rfl, rfl, rfl, trivial⟩) (hK_13 (a1.length : Int) _ _ ⟨rfl, hS⟩ h)
          · have h := if_f h hb_11
            refine wpC_skip ?_
            refine QE_then_n ?_
            exact wpC_le _ (by exact ⟨rfl, rfl, rfl, rfl, rfl, trivial⟩) (hK_13 (a0.length : Int) _ _ ⟨rfl, hS⟩ h)
    · intro hK_10
      refine wpC_region ?_
      refine wpR_v (OpV_move rfl) rfl ?_
      refine wpR_v (OpV_bin rfl rfl (b_ineq _ x_2.2.1 0)) rfl ?_
      refine wpR_v (OpV_move rfl) rfl ?_
      cases hb_8 : (x_2.2.1 != 0)
      case true =>
        have h := if_t h hb_8
        try simp only [hb_8]
        refine wpR_gskip (b := true) (t := 28) rfl rfl rfl rfl ?_
        refine wpR_gskip (b := true) (t := 28) rfl rfl rfl rfl ?_
        refine wpR_v (OpV_pickT rfl rfl) rfl ?_
        refine wpR_nil ?_
        refine QE_then_n ?_
        exact wpC_le _ (by exact ⟨rfl, rfl, rfl, rfl, rfl, trivial⟩) (hK_10 true _ _ ⟨rfl, (hS.pick [1, 0] (by decide) rfl)⟩ h)
      case false =>
        have h := if_f h hb_8
        try simp only [hb_8]
        refine wpR_gv (t := 28) rfl rfl (OpV_move rfl) rfl ?_
        refine wpR_gv (t := 28) rfl rfl (OpV_bin rfl rfl (b_ineq _ x_5.2.1 0)) rfl ?_
        refine wpR_v (OpV_pickF rfl rfl) rfl ?_
        refine wpR_nil ?_
        refine QE_then_n ?_
        exact wpC_le _ (by exact ⟨rfl, rfl, rfl, rfl, rfl, trivial⟩) (hK_10 (x_5.2.1 != 0) _ _ ⟨rfl, (hS.pick [1, 0] (by decide) rfl)⟩ h)

theorem c_law30_CborCuts (w0 : World) (a0 : List UInt8) (a1 : Int) (a2 : List UInt8) (va0 : Value) (va2 : Value) (hT : TB [] w0) (ha0 : RP [] w0 e8 va0 a0) (ha2 : RP [] w0 e8 va2 a2) (r : Bool)
    (h : F.law30_CborCuts a0 a1 a2 = some r) : Calls Tryd.prog 7 #[va0, vI a1, va2] w0 (Ret fun v w => v = vB r ∧ St [] w0 w []) := by
  refine calls_at 97 Tryd.func7 rfl rfl rfl ?_
  have hS := St.start w0
  refine wpC_le [(0, va0), (1, vI a1), (2, va2)] ⟨rfl, rfl, rfl, trivial⟩ ?_
  unfold F.law30_CborCuts at h
  refine wpC_seq ?_
  refine wpC_region ?_
  refine wpR_v (OpV_assign rfl) rfl ?_
  refine wpR_nil ?_
  refine QE_then_n ?_
  refine wpC_seq ?_
  refine wpC_seq ?_
  refine wpC_region ?_
  obtain ⟨x_1, hx_1, h⟩ := obind_some h
  refine wpR_call (by kernel_rfl) rfl (c_law30_awake _    (hT.now hS.fr) _ hx_1) rfl ?_
  rintro _ w ⟨rfl, hS1⟩
  have hS := hS.call hS1
  simp only [List.cons_append, List.nil_append] at hS
  refine wpR_v (OpV_un rfl (u_not x_1)) rfl ?_
  refine wpR_nil ?_
  refine QE_then_n ?_
  refine wpC_cond rfl (fun hb_36 => ?_) (fun hb_36 => ?_)
  · have h := if_t h hb_36
    refine wpC_seq ?_
    refine wpC_region ?_
    refine wpR_v (OpV_assign rfl) rfl ?_
    refine wpR_nil ?_
    refine QE_then_n ?_
    refine wpC_ret ?_
    refine QE_then_r ?_
    cases h
    exact QE_ret1 rfl rfl ⟨rfl, hS⟩
  · have h := if_f h hb_36
    refine wpC_skip ?_
    refine QE_then_n ?_
    refine wpC_seq ?_
    refine wpC_region ?_
    refine wpR_v (OpV_move rfl) rfl ?_
    obtain ⟨x_2, hx_2, h⟩ := obind_some h
    refine wpR_call (by kernel_rfl) rfl (c_cbor_Parse _ a0 va0  (hT.now hS.fr) (ha0.now hS.fr).rp _ hx_2) rfl ?_
    rintro _ w ⟨v_3, rfl, hS1⟩
    have hS := hS.call hS1
    simp only [List.cons_append, List.nil_append] at hS
    refine wpR_v (OpV_move rfl) rfl ?_
    refine wpR_v (OpV_extract rfl rfl) rfl ?_
    refine wpR_v (OpV_extract rfl rfl) rfl ?_
    refine wpR_v (OpV_extract rfl rfl) rfl ?_
    refine wpR_v (OpV_assign rfl) rfl ?_
    refine wpR_v (OpV_assign rfl) rfl ?_
    refine wpR_v (OpV_assign rfl) rfl ?_
    refine wpR_nil ?_
    refine QE_then_n ?_
    refine wpC_seq ?_
    refine wpC_seq ?_
    refine wpC_region ?_
    refine wpR_v (OpV_move rfl) rfl ?_
    refine wpR_v (OpV_bin rfl rfl (b_ineq _ x_2.2.1 0)) rfl ?_
    refine wpR_nil ?_
    refine QE_then_n ?_
    refine wpC_cond rfl (fun hb_35 => ?_) (fun hb_35 => ?_)
    · have h := if_t h hb_35
      refine wpC_seq ?_
      refine wpC_region ?_
      refine wpR_v (OpV_assign rfl) rfl ?_
      refine wpR_nil ?_
      refine QE_then_n ?_
      refine wpC_ret ?_
      refine QE_then_r ?_
      cases h
      exact QE_ret1 rfl rfl ⟨rfl, hS.pick [] (by decide) rfl⟩
    · have h := if_f h hb_35
      refine wpC_skip ?_
      refine QE_then_n ?_
      refine wpC_seq ?_
      refine wpC_region ?_
      refine wpR_v (OpV_move rfl) rfl ?_
      refine wpR_v (OpV_move rfl) rfl ?_
      refine wpR_v (OpV_len Tryd.underlying25 rfl (ha0.now hS.fr)) rfl ?_
      obtain ⟨hg_5, h⟩ := grd_some h
      refine wpR_v (OpV_bin rfl rfl (b_irem _ a1 (a0.length : Int) hg_5)) rfl ?_
      obtain ⟨x_6, hx_6, h⟩ := olet_some h
      refine wpR_v (OpV_assign (v := vI x_6) (by rw [← hx_6]; rfl)) rfl ?_
      refine wpR_nil ?_
      refine QE_then_n ?_
      refine seq_join (r := r) (fun (g : Int) L w => L = [(0, va0), (2, va2), (10, vI g)] ∧ St [] w0 w []) (F.law30_CborCuts_K1 a0 a2) ?_ ?_
      · rintro x_9 L w hJ h
        try dsimp only at hJ
        obtain ⟨rfl, hS⟩ := hJ
        unfold F.law30_CborCuts_K1 at h
        refine wpC_seq ?_
        refine wpC_region ?_
        refine wpR_v (OpV_move rfl) rfl ?_
        refine wpR_v (OpV_move rfl) rfl ?_
        obtain ⟨x_11, hx_11, h⟩ := obind_some h
        refine wpR_v (G_slh Tryd.underlying25 ti5 rfl rfl (ha0.now hS.fr) hx_11) rfl ?_
        obtain ⟨x_12, hx_12, h⟩ := obind_some h
        refine wpR_call (by kernel_rfl) rfl (c_cbor_Parse _ x_11 (slV va0 e8.sz 0 ((x_9 : Int).toNat))  (hT.now hS.fr) ((ha0.g_slh hx_11).now hS.fr).rp _ hx_12) rfl ?_
        rintro _ w ⟨v_13, rfl, hS1⟩
        have hS := hS.call hS1
        simp only [List.cons_append, List.nil_append] at hS
        refine wpR_v (OpV_move rfl) rfl ?_
        refine wpR_v (OpV_extract rfl rfl) rfl ?_
        refine wpR_v (OpV_extract rfl rfl) rfl ?_
        refine wpR_v (OpV_extract rfl rfl) rfl ?_
        refine wpR_v (OpV_assign rfl) rfl ?_
        refine wpR_v (OpV_assign rfl) rfl ?_
        refine wpR_v (OpV_assign rfl) rfl ?_
        refine wpR_nil ?_
        refine QE_then_n ?_
        refine wpC_seq ?_
        refine seq_join (r := r) (fun (g : Bool) L w => L = [(0, va0), (2, va2), (54, vB g)] ∧ St [] w0 w []) (F.law30_CborCuts_K2 a0 a2) ?_ ?_
        · rintro x_17 L w hJ h
          try dsimp only at hJ
          obtain ⟨rfl, hS⟩ := hJ
          unfold F.law30_CborCuts_K2 at h
          refine wpC_cond rfl (fun hb_34 => ?_) (fun hb_34 => ?_)
          · have h := if_t h hb_34
            refine wpC_seq ?_
            refine wpC_region ?_
            refine wpR_v (OpV_assign rfl) rfl ?_
            refine wpR_nil ?_
            refine QE_then_n ?_
            refine wpC_ret ?_
            refine QE_then_r ?_
            cases h
            exact QE_ret1 rfl rfl ⟨rfl, hS⟩
          · have h := if_f h hb_34
            refine wpC_skip ?_
            refine QE_then_n ?_
            refine wpC_seq ?_
            refine wpC_seq ?_
            refine wpC_region ?_
            refine wpR_v (OpV_move rfl) rfl ?_
            refine wpR_v (OpV_len Tryd.underlying25 rfl (ha2.now hS.fr)) rfl ?_
            refine wpR_v (OpV_bin rfl rfl (b_ieql _ (a2.length : Int) 0)) rfl ?_
            refine wpR_nil ?_
            refine QE_then_n ?_
            refine wpC_cond rfl (fun hb_33 => ?_) (fun hb_33 => ?_)
            · have h := if_t h hb_33
              refine wpC_seq ?_
              refine wpC_region ?_
              refine wpR_v (OpV_assign rfl) rfl ?_
              refine wpR_nil ?_
              refine QE_then_n ?_
              refine wpC_ret ?_
              refine QE_then_r ?_
              cases h
              exact QE_ret1 rfl rfl ⟨rfl, hS⟩
            · have h := if_f h hb_33
              refine wpC_skip ?_
              refine QE_then_n ?_
              refine wpC_seq ?_
              refine wpC_region ?_
              refine wpR_v (OpV_assign rfl) rfl ?_
              refine wpR_nil ?_
              refine QE_then_n ?_
              refine wpC_seq ?_
              refine wpC_region ?_
              refine wpR_v (OpV_move rfl) rfl ?_
              refine wpR_v (OpV_move rfl) rfl ?_
              obtain ⟨x_19, hx_19, h⟩ := obind_some h
              refine wpR_x (G_append0 Tryd.underlying25 ti5 rfl rfl rfl hS (ha0.now hS.fr) hx_19) rfl ?_
              rintro v_20 w hS
              refine wpR_v (OpV_assign rfl) rfl ?_
              refine wpR_nil ?_
              refine QE_then_n ?_
              refine wpC_seq ?_
              refine wpC_region ?_
              refine wpR_v (OpV_move rfl) rfl ?_
              refine wpR_v (OpV_move rfl) rfl ?_
              obtain ⟨x_22, hx_22, h⟩ := obind_some h
              refine wpR_x (G_append Tryd.underlying25 ti5 rfl rfl rfl hS (i := 0) rfl (ha2.now hS.fr) hx_22) rfl ?_
              rintro v_23 w hS
              refine wpR_v (OpV_assign rfl) rfl ?_
              refine wpR_nil ?_
              refine QE_then_n ?_
              refine wpC_seq ?_
              refine wpC_region ?_
              refine wpR_v (OpV_move rfl) rfl ?_
              obtain ⟨x_25, hx_25, h⟩ := obind_some h
              refine wpR_call (by kernel_rfl) rfl (c_cbor_Parse _ x_22 v_23  (hT.now hS.fr) (hS.ro 0 rfl).rp _ hx_25) rfl ?_
              rintro _ w ⟨v_26, rfl, hS1⟩
              have hS := hS.call hS1
              simp only [List.cons_append, List.nil_append] at hS
              refine wpR_v (OpV_move rfl) rfl ?_
              refine wpR_v (OpV_extract rfl rfl) rfl ?_
              refine wpR_v (OpV_extract rfl rfl) rfl ?_
              refine wpR_v (OpV_extract rfl rfl) rfl ?_
              refine wpR_v (OpV_assign rfl) rfl ?_
              refine wpR_v (OpV_assign rfl) rfl ?_
              refine wpR_v (OpV_assign rfl) rfl ?_
              refine wpR_nil ?_
              refine QE_then_n ?_
              refine wpC_seq ?_
              refine wpC_seq ?_
              refine wpC_region ?_
              refine wpR_v (OpV_move rfl) rfl ?_
              refine wpR_v (OpV_len Tryd.underlying25 rfl (hS.ro 1 rfl)) rfl ?_
              refine wpR_v (OpV_bin rfl rfl (b_igtr _ (x_22.length : Int) 65536)) rfl ?_
              refine wpR_nil ?_
              refine QE_then_n ?_
              refine wpC_cond rfl (fun hb_32 => ?_) (fun hb_32 => ?_)
              · have h := if_t h hb_32
                refine wpC_seq ?_
                refine wpC_region ?_
                refine wpR_v (OpV_move rfl) rfl ?_
                refine wpR_v (OpV_bin rfl rfl (b_ieql _ x_25.2.1 10)) rfl ?_
                refine wpR_v (OpV_move rfl) rfl ?_
                cases hb_28 : (x_25.2.1 == 10)
                case true =>
                  have h := if_t h hb_28
                  try simp only [hb_28]
                  refine wpR_gv (t := 75) rfl rfl (OpV_move rfl) rfl ?_
                  refine wpR_gv (t := 75) rfl rfl (OpV_bin rfl rfl (b_ieql _ x_25.2.2 0)) rfl ?_
                  refine wpR_v (OpV_pickT rfl rfl) rfl ?_
                  refine wpR_v (OpV_move rfl) rfl ?_
                  cases hb_29 : (x_25.2.2 == 0)
                  case true =>
                    have h := if_t h hb_29
                    try simp only [hb_29]
                    refine wpR_gv (t := 79) rfl rfl (OpV_move rfl) rfl ?_
                    refine wpR_gv (t := 79) rfl rfl (OpV_len Tryd.underlying22 rfl (hS.ro 0 rfl)) rfl ?_
                    refine wpR_gv (t := 79) rfl rfl (OpV_bin rfl rfl (b_ieql _ (x_25.1.length : Int) 0)) rfl ?_
                    refine wpR_v (OpV_pickT rfl rfl) rfl ?_
                    refine wpR_v (OpV_assign rfl) rfl ?_
                    refine wpR_nil ?_
                    refine QE_then_n ?_
                    refine wpC_ret ?_
                    refine QE_then_r ?_
                    cases h
                    exact QE_ret1 rfl rfl ⟨rfl, hS.pick [] (by decide) rfl⟩
                  case false =>
                    have h := if_f h hb_29
                    try simp only [hb_29]
                    refine wpR_gskip (b := false) (t := 79) rfl rfl rfl rfl ?_
                    refine wpR_gskip (b := false) (t := 79) rfl rfl rfl rfl ?_
                    refine wpR_gskip (b := false) (t := 79) rfl rfl rfl rfl ?_
                    refine wpR_v (OpV_pickF rfl rfl) rfl ?_
                    refine wpR_v (OpV_assign rfl) rfl ?_
                    refine wpR_nil ?_
                    refine QE_then_n ?_
                    refine wpC_ret ?_
                    refine QE_then_r ?_
                    cases h
                    exact QE_ret1 rfl rfl ⟨rfl, hS.pick [] (by decide) rfl⟩
                case false =>
                  have h := if_f h hb_28
                  try simp only [hb_28]
                  refine wpR_gskip (b := false) (t := 75) rfl rfl rfl rfl ?_
                  refine wpR_gskip (b := false) (t := 75) rfl rfl rfl rfl ?_
                  refine wpR_v (OpV_pickF rfl rfl) rfl ?_
                  refine wpR_v (OpV_move rfl) rfl ?_
                  refine wpR_gskip (b := false) (t := 79) rfl rfl rfl rfl ?_
                  refine wpR_gskip (b := false) (t := 79) rfl rfl rfl rfl ?_
                  refine wpR_gskip (b := false) (t := 79) rfl rfl rfl rfl ?_
                  refine wpR_v (OpV_pickF rfl rfl) rfl ?_
                  refine wpR_v (OpV_assign rfl) rfl ?_
                  refine wpR_nil ?_
                  refine QE_then_n ?_
                  refine wpC_ret ?_
                  refine QE_then_r ?_
                  cases h
                  exact QE_ret1 rfl rfl ⟨rfl, hS.pick [] (by decide) rfl⟩
              · have h := if_f h hb_32
                refine wpC_skip ?_
                refine QE_then_n ?_
                refine wpC_seq ?_
                refine wpC_region ?_
                refine wpR_v (OpV_move rfl) rfl ?_
                refine wpR_v (OpV_bin rfl rfl (b_ieql _ x_25.2.1 220)) rfl ?_
                refine wpR_v (OpV_move rfl) rfl ?_
                cases hb_30 : (x_25.2.1 == 220)
                case true =>
                  have h := if_t h hb_30
                  try simp only [hb_30]
                  refine wpR_gv (t := 86) rfl rfl (OpV_move rfl) rfl ?_
                  refine wpR_gv (t := 86) rfl rfl (OpV_move rfl) rfl ?_
                  refine wpR_gv (t := 86) rfl rfl (OpV_len Tryd.underlying25 rfl (ha0.now hS.fr)) rfl ?_
                  refine wpR_gv (t := 86) rfl rfl (OpV_bin rfl rfl (b_ieql _ x_25.2.2 (a0.length : Int))) rfl ?_
                  refine wpR_v (OpV_pickT rfl rfl) rfl ?_
                  refine wpR_v (OpV_move rfl) rfl ?_
                  cases hb_31 : (x_25.2.2 == (a0.length : Int))
                  case true =>
                    have h := if_t h hb_31
                    try simp only [hb_31]
                    refine wpR_gv (t := 92) rfl rfl (OpV_move rfl) rfl ?_
                    refine wpR_gv (t := 92) rfl rfl (OpV_len Tryd.underlying22 rfl (hS.ro 0 rfl)) rfl ?_
                    refine wpR_gv (t := 92) rfl rfl (OpV_bin rfl rfl (b_ieql _ (x_25.1.length : Int) 0)) rfl ?_
                    refine wpR_v (OpV_pickT rfl rfl) rfl ?_
                    refine wpR_v (OpV_assign rfl) rfl ?_
                    refine wpR_nil ?_
                    refine QE_then_n ?_
                    refine wpC_ret ?_
                    cases h
                    exact QE_ret1 rfl rfl ⟨rfl, hS.pick [] (by decide) rfl⟩
                  case false =>
                    have h := if_f h hb_31
                    try simp only [hb_31]
                    refine wpR_gskip (b := false) (t := 92) rfl rfl rfl rfl ?_
                    refine wpR_gskip (b := false) (t := 92) rfl rfl rfl rfl ?_
                    refine wpR_gskip (b := false) (t := 92) rfl rfl rfl rfl ?_
                    refine wpR_v (OpV_pickF rfl rfl) rfl ?_
                    refine wpR_v (OpV_assign rfl) rfl ?_
                    refine wpR_nil ?_
                    refine QE_then_n ?_
                    refine wpC_ret ?_
                    cases h
                    exact QE_ret1 rfl rfl ⟨rfl, hS.pick [] (by decide) rfl⟩
                case false =>
                  have h := if_f h hb_30
                  try simp only [hb_30]
                  refine wpR_gskip (b := false) (t := 86) rfl rfl rfl rfl ?_
                  refine wpR_gskip (b := false) (t := 86) rfl rfl rfl rfl ?_
                  refine wpR_gskip (b := false) (t := 86) rfl rfl rfl rfl ?_
                  refine wpR_gskip (b := false) (t := 86) rfl rfl rfl rfl ?_
                  refine wpR_v (OpV_pickF rfl rfl) rfl ?_
                  refine wpR_v (OpV_move rfl) rfl ?_
                  refine wpR_gskip (b := false) (t := 92) rfl rfl rfl rfl ?_
                  refine wpR_gskip (b := false) (t := 92) rfl rfl rfl rfl ?_
                  refine wpR_gskip (b := false) (t := 92) rfl rfl rfl rfl ?_
                  refine wpR_v (OpV_pickF rfl rfl) rfl ?_
                  refine wpR_v (OpV_assign rfl) rfl ?_
                  refine wpR_nil ?_
                  refine QE_then_n ?_
                  refine wpC_ret ?_
                  cases h
                  exact QE_ret1 rfl rfl ⟨rfl, hS.pick [] (by decide) rfl⟩
        · intro hK_18
          refine wpC_region ?_
          refine wpR_v (OpV_move rfl) rfl ?_
          refine wpR_v (OpV_bin rfl rfl (b_ineq _ x_12.2.1 220)) rfl ?_
          refine wpR_v (OpV_move rfl) rfl ?_
          cases hb_15 : (x_12.2.1 != 220)
          case true =>
            have h := if_t h hb_15
            try simp only [hb_15]
            refine wpR_gskip (b := true) (t := 45) rfl rfl rfl rfl ?_
            refine wpR_gskip (b := true) (t := 45) rfl rfl rfl rfl ?_
            refine wpR_gskip (b := true) (t := 45) rfl rfl rfl rfl ?_
            refine wpR_v (OpV_pickT rfl rfl) rfl ?_
            refine wpR_v (OpV_move rfl) rfl ?_
            refine wpR_gskip (b := true) (t := 50) rfl rfl rfl rfl ?_
            refine wpR_gskip (b := true) (t := 50) rfl rfl rfl rfl ?_
            refine wpR_gskip (b := true) (t := 50) rfl rfl rfl rfl ?_
            refine wpR_v (OpV_pickT rfl rfl) rfl ?_
            refine wpR_nil ?_
            refine QE_then_n ?_
            exact wpC_le _ (by exact ⟨rfl, rfl, rfl, trivial⟩) (hK_18 true _ _ ⟨rfl, (hS.pick [] (by decide) rfl)⟩ h)
          case false =>
            have h := if_f h hb_15
            try simp only [hb_15]
            refine wpR_gv (t := 45) rfl rfl (OpV_move rfl) rfl ?_
            refine wpR_gv (t := 45) rfl rfl (OpV_move rfl) rfl ?_
            refine wpR_gv (t := 45) rfl rfl (OpV_bin rfl rfl (b_ineq _ x_12.2.2 x_9)) rfl ?_
            refine wpR_v (OpV_pickF rfl rfl) rfl ?_
            refine wpR_v (OpV_move rfl) rfl ?_
            cases hb_16 : (x_12.2.2 != x_9)
            case true =>
              have h := if_t h hb_16
              try simp only [hb_16]
              refine wpR_gskip (b := true) (t := 50) rfl rfl rfl rfl ?_
              refine wpR_gskip (b := true) (t := 50) rfl rfl rfl rfl ?_
              refine wpR_gskip (b := true) (t := 50) rfl rfl rfl rfl ?_
              refine wpR_v (OpV_pickT rfl rfl) rfl ?_
              refine wpR_nil ?_
              refine QE_then_n ?_
              exact wpC_le _ (by exact ⟨rfl, rfl, rfl, trivial⟩) (hK_18 true _ _ ⟨rfl, (hS.pick [] (by decide) rfl)⟩ h)
            case false =>
              have h := if_f h hb_16
              try simp only [hb_16]
              refine wpR_gv (t := 50) rfl rfl (OpV_move rfl) rfl ?_
              refine wpR_gv (t := 50) rfl rfl (OpV_len Tryd.underlying22 rfl (hS.ro 0 rfl)) rfl ?_
              refine wpR_gv (t := 50) rfl rfl (OpV_bin rfl rfl (b_ineq _ (x_12.1.length : Int) 0)) rfl ?_
              refine wpR_v (OpV_pickF rfl rfl) rfl ?_
              refine wpR_nil ?_
              refine QE_then_n ?_
              exact wpC_le _ (by exact ⟨rfl, rfl, rfl, trivial⟩) (hK_18 ((x_12.1.length : Int) != 0) _ _ ⟨rfl, (hS.pick [] (by decide) rfl)⟩ h)
      · intro hK_10
        refine wpC_seq ?_
        refine wpC_region ?_
        refine wpR_v (OpV_move rfl) rfl ?_
        refine wpR_v (OpV_bin rfl rfl (b_ilss _ x_6 0)) rfl ?_
        refine wpR_nil ?_
        refine QE_then_n ?_
        refine wpC_cond rfl (fun hb_8 => ?_) (fun hb_8 => ?_)
        · have h := if_t h hb_8
          refine wpC_region ?_
          refine wpR_v (OpV_move rfl) rfl ?_
          refine wpR_v (OpV_move rfl) rfl ?_
          refine wpR_v (OpV_len Tryd.underlying25 rfl (ha0.now hS.fr)) rfl ?_
          refine wpR_v (OpV_bin rfl rfl (b_iadd _ x_6 (a0.length : Int))) rfl ?_
          obtain ⟨x_7, hx_7, h⟩ := olet_some h
          refine wpR_v (OpV_assign (v := vI x_7) (by rw [← hx_7]; rfl)) rfl ?_
          refine wpR_nil ?_
          refine QE_then_n ?_
          exact wpC_le _ (by exact ⟨rfl, rfl, rfl, trivial⟩) (hK_10 x_7 _ _ ⟨rfl, (hS.pick [] (by decide) rfl)⟩ h)
        · have h := if_f h hb_8
          refine wpC_skip ?_
          refine QE_then_n ?_
          exact wpC_le _ (by exact ⟨rfl, rfl, rfl, trivial⟩) (hK_10 x_6 _ _ ⟨rfl, (hS.pick [] (by decide) rfl)⟩ h)

theorem c_law30_joined (w0 : World) (a0 : Int) (a1 : List (List (Int × UInt64 × (List UInt8) × Int))) (va1 : Value) (s1 : List SV) (ha1 : RP [] w0 eV va1 s1) (hl1 : AllRP [] w0 (eP eI (eP e64 (eP eS eI))) s1 a1) (r : List (Int × UInt64 × (List UInt8) × Int))
    (h : F.law30_joined a0 a1 = some r) : Calls Tryd.prog 32 #[vI a0, va1] w0 (Ret fun v w => St [] w0 w [own (eP eI (eP e64 (eP eS eI))) v r]) := by
  refine calls_at 25 Tryd.func32 rfl rfl rfl ?_
  have hS := St.start w0
  refine wpC_le [(0, vI a0), (1, va1)] ⟨rfl, rfl, trivial⟩ ?_
  unfold F.law30_joined at h
  refine wpC_seq ?_
  refine wpC_region ?_
  refine wpR_v (OpV_assign rfl) rfl ?_
  refine wpR_nil ?_
  refine QE_then_n ?_
  refine wpC_seq ?_
  refine wpC_region ?_
  refine wpR_v (OpV_move rfl) rfl ?_
  refine wpR_v (OpV_move rfl) rfl ?_
  refine wpR_v (L_len Tryd.underlying44 rfl (ha1.now hS.fr) hl1.len) rfl ?_
  refine wpR_v (OpV_build (vs := [(0, vI a0, [vI a0]), (3, vI (a1.length : Int), [vI (a1.length : Int)])]) (cells := [vI a0, v64 0, vS [], vI (a1.length : Int)]) rfl lay33 ⟨rfl, rfl, trivial⟩ rfl) rfl ?_
  refine wpR_x (OpX_litE (e := (eP eI (eP e64 (eP eS eI)))) (l := ([(a0, 0, [], (a1.length : Int))] : List (Int × UInt64 × (List UInt8) × Int))) (vs := [(0, .agg #[vI a0, v64 0, vS [], vI (a1.length : Int)], [vI a0, v64 0, vS [], vI (a1.length : Int)])]) Tryd.underlying22 ti33 rfl ⟨rfl, trivial⟩ rfl rfl (Nat.le_of_ble_eq_true rfl) (Nat.le_of_ble_eq_true rfl) hS) rfl ?_
  rintro v_1 w hS
  refine wpR_v (OpV_assign rfl) rfl ?_
  refine wpR_nil ?_
  refine QE_then_n ?_
  refine wpC_seq ?_
  refine wpC_seq ?_
  refine wpC_region ?_
  refine wpR_v (OpV_assign rfl) rfl ?_
  refine wpR_nil ?_
  refine QE_then_n ?_
  refine wpC_block ?_
  refine wpC_le [(1, va1), (5, v_1), (6, vI 0)] ⟨rfl, rfl, rfl, trivial⟩ ?_
  refine loop_ind (F.law30_joined_L1 a1) (fun (s : (List (Int × UInt64 × (List UInt8) × Int)) × Int) L w => ∃ (v_4 : Value), L = [(1, va1), (5, v_4), (6, vI s.2)] ∧ St [] w0 w [own (eP eI (eP e64 (eP eS eI))) v_4 s.1]) ?_ (([(a0, 0, [], (a1.length : Int))] : List (Int × UInt64 × (List UInt8) × Int)), 0) ⟨v_1, rfl, hS⟩ h
  rintro k_16 ⟨x_3, x_6⟩ L w q_9 hI ih_8 h hk_7
  try dsimp only at hI
  obtain ⟨v_4, rfl, hS⟩ := hI
  unfold F.law30_joined_L1 at h
  refine wpC_seq ?_
  refine wpC_seq ?_
  refine wpC_region ?_
  refine wpR_v (OpV_move rfl) rfl ?_
  refine wpR_v (OpV_move rfl) rfl ?_
  refine wpR_v (L_len Tryd.underlying44 rfl (ha1.now hS.fr) hl1.len) rfl ?_
  refine wpR_v (OpV_bin rfl rfl (b_ilss _ x_6 (a1.length : Int))) rfl ?_
  refine wpR_nil ?_
  refine QE_then_n ?_
  refine wpC_cond rfl (fun hb_15 => ?_) (fun hb_15 => ?_)
  · have h := if_t h hb_15
    refine wpC_skip ?_
    refine QE_then_n ?_
    refine wpC_seq ?_
    refine wpC_block ?_
    refine wpC_region ?_
    refine wpR_v (OpV_move rfl) rfl ?_
    refine wpR_v (OpV_move rfl) rfl ?_
    refine wpR_v (OpV_move rfl) rfl ?_
    obtain ⟨x_10, hx_10, h⟩ := obind_some h
    obtain ⟨sv_11, hsv_11, hRsv_11⟩ := hl1.get hx_10
    refine wpR_v (G_ix Tryd.underlying44 ti22 rfl rfl (ha1.now hS.fr) hsv_11) rfl ?_
    refine wpR_v (G_load Tryd.underlying22 rfl rfl (ha1.now hS.fr) hsv_11 rfl) rfl ?_
    obtain ⟨x_12, hx_12, h⟩ := obind_some h
    refine wpR_x (G_append Tryd.underlying22 ti33 rfl rfl rfl hS (i := 0) rfl (hRsv_11.now hS.fr) hx_12) rfl ?_
    rintro v_13 w hS
    refine wpR_v (OpV_assign rfl) rfl ?_
    refine wpR_nil ?_
    refine QE_blk_n ?_
    refine QE_then_n ?_
    refine wpC_region ?_
    refine wpR_v (OpV_move rfl) rfl ?_
    refine wpR_v (OpV_bin rfl rfl (b_iadd _ x_6 1)) rfl ?_
    refine wpR_v (OpV_assign rfl) rfl ?_
    refine wpR_nil ?_
    exact QE_rnd (wpN_le _ (by exact ⟨rfl, rfl, rfl, trivial⟩) (ih_8 (x_12, wI (x_6 + 1)) _ _ ⟨v_13, rfl, hS⟩ (oinl_some h hk_7)))
  · have h := if_f h hb_15
    refine wpC_exit ?_
    refine QE_then_x ?_
    refine QE_then_x ?_
    have h := oinr_some h hk_7
    refine QE_blk_x ?_
    refine QE_then_n ?_
    refine wpC_seq ?_
    refine wpC_region ?_
    refine wpR_v (OpV_move rfl) rfl ?_
    refine wpR_v (OpV_assign rfl) rfl ?_
    refine wpR_nil ?_
    refine QE_then_n ?_
    refine wpC_ret ?_
    cases h
    exact QE_ret1 rfl rfl (hS.pick [0] (by decide) rfl)

theorem c_law30_CborNests (w0 : World) (a0 : Int) (a1 : List UInt8) (a2 : List UInt8) (va1 : Value) (va2 : Value) (hT : TB [] w0) (ha1 : RP [] w0 e8 va1 a1) (ha2 : RP [] w0 e8 va2 a2) (r : Bool)
    (h : F.law30_CborNests a0 a1 a2 = some r) : Calls Tryd.prog 8 #[vI a0, va1, va2] w0 (Ret fun v w => v = vB r ∧ St [] w0 w []) := by
  refine calls_at 114 Tryd.func8 rfl rfl rfl ?_
  have hS := St.start w0
  refine wpC_le [(0, vI a0), (1, va1), (2, va2)] ⟨rfl, rfl, rfl, trivial⟩ ?_
  unfold F.law30_CborNests at h
  refine wpC_seq ?_
  refine wpC_region ?_
  refine wpR_v (OpV_assign rfl) rfl ?_
  refine wpR_nil ?_
  refine QE_then_n ?_
  refine wpC_seq ?_
  refine seq_join (r := r) (fun (g : Bool) L w => L = [(0, vI a0), (1, va1), (2, va2), (26, vB g)] ∧ St [] w0 w []) (F.law30_CborNests_K1 a0 a2 a1) ?_ ?_
  · rintro x_4 L w hJ h
    try dsimp only at hJ
    obtain ⟨rfl, hS⟩ := hJ
    unfold F.law30_CborNests_K1 at h
    refine wpC_cond rfl (fun hb_74 => ?_) (fun hb_74 => ?_)
    · have h := if_t h hb_74
      refine wpC_seq ?_
      refine wpC_region ?_
      obtain ⟨x_6, hx_6, h⟩ := obind_some h
      refine wpR_call (by kernel_rfl) rfl (c_law30_awake _    (hT.now hS.fr) _ hx_6) rfl ?_
      rintro _ w ⟨rfl, hS1⟩
      have hS := hS.call hS1
      simp only [List.cons_append, List.nil_append] at hS
      refine wpR_v (OpV_assign rfl) rfl ?_
      refine wpR_nil ?_
      refine QE_then_n ?_
      refine wpC_ret ?_
      refine QE_then_r ?_
      cases h
      exact QE_ret1 rfl rfl ⟨rfl, hS⟩
    · have h := if_f h hb_74
      refine wpC_skip ?_
      refine QE_then_n ?_
      refine wpC_seq ?_
      refine wpC_region ?_
      refine wpR_v (OpV_assign rfl) rfl ?_
      refine wpR_nil ?_
      refine QE_then_n ?_
      refine wpC_seq ?_
      refine wpC_region ?_
      refine wpR_v (OpV_assign rfl) rfl ?_
      refine wpR_nil ?_
      refine QE_then_n ?_
      refine wpC_seq ?_
      refine wpC_seq ?_
      refine wpC_region ?_
      refine wpR_v (OpV_assign rfl) rfl ?_
      refine wpR_nil ?_
      refine QE_then_n ?_
      refine wpC_block ?_
      refine wpC_le [(0, vI a0), (1, va1), (2, va2), (7, .slice none 0 0), (8, vI 0), (9, vI 0)] ⟨rfl, rfl, rfl, rfl, rfl, rfl, trivial⟩ ?_
      refine loop_ind (F.law30_CborNests_L1 a0 a2 a1) (fun (s : List UInt8 × Int × Int) L w => ∃ (v_8 : Value), L = [(0, vI a0), (1, va1), (2, va2), (7, v_8), (8, vI s.2.1), (9, vI s.2.2)] ∧ St [] w0 w [own e8 v_8 s.1]) ?_ ([], 0, 0) ⟨.slice none 0 0, rfl, (hS.nil e8)⟩ h
      rintro k_73 ⟨x_7, x_10, x_11⟩ L w q_14 hI ih_13 h hk_12
      try dsimp only at hI
      obtain ⟨v_8, rfl, hS⟩ := hI
      unfold F.law30_CborNests_L1 at h
      refine wpC_seq ?_
      refine wpC_seq ?_
      refine wpC_region ?_
      refine wpR_v (OpV_move rfl) rfl ?_
      refine wpR_v (OpV_move rfl) rfl ?_
      refine wpR_v (OpV_bin rfl rfl (b_ilss _ x_11 a0)) rfl ?_
      refine wpR_nil ?_
      refine QE_then_n ?_
      refine wpC_cond rfl (fun hb_72 => ?_) (fun hb_72 => ?_)
      · have h := if_t h hb_72
        refine wpC_skip ?_
        refine QE_then_n ?_
        refine seq_join (r := q_14) (fun (g : List UInt8 × Int) L w => ∃ (v_41 : Value), L = [(0, vI a0), (1, va1), (2, va2), (7, v_41), (8, vI g.2), (9, vI x_11)] ∧ St [] w0 w [own e8 v_41 g.1]) (F.law30_CborNests_K2 x_11) ?_ ?_
        · rintro ⟨x_40, x_43⟩ L w hJ h
          try dsimp only at hJ
          obtain ⟨v_41, rfl, hS⟩ := hJ
          unfold F.law30_CborNests_K2 at h
          refine wpC_region ?_
          refine wpR_v (OpV_move rfl) rfl ?_
          refine wpR_v (OpV_bin rfl rfl (b_iadd _ x_11 1)) rfl ?_
          refine wpR_v (OpV_assign rfl) rfl ?_
          refine wpR_nil ?_
          exact QE_rnd (wpN_le _ (by exact ⟨rfl, rfl, rfl, rfl, rfl, rfl, trivial⟩) (ih_13 (x_40, x_43, wI (x_11 + 1)) _ _ ⟨v_41, rfl, hS⟩ (oinl_some h hk_12)))
        · intro hK_44
          refine wpC_block ?_
          refine seq_join (r := q_14) (fun (g : Int) L w => L = [(0, vI a0), (1, va1), (2, va2), (7, v_8), (8, vI g), (9, vI x_11)] ∧ St [] w0 w [own e8 v_8 x_7]) (F.law30_CborNests_K3 a1 x_11 x_7) ?_ ?_
          · rintro x_16 L w hJ h
            try dsimp only at hJ
            obtain ⟨rfl, hS⟩ := hJ
            unfold F.law30_CborNests_K3 at h
            refine wpC_seq ?_
            refine wpC_region ?_
            refine wpR_v (OpV_assign rfl) rfl ?_
            refine wpR_nil ?_
            refine QE_then_n ?_
            refine seq_join (r := q_14) (fun (g : UInt8) L w => L = [(0, vI a0), (1, va1), (2, va2), (7, v_8), (8, vI x_16), (9, vI x_11), (10, v8 g)] ∧ St [] w0 w [own e8 v_8 x_7]) (F.law30_CborNests_K4 x_7 x_16 x_11) ?_ ?_
            · rintro x_21 L w hJ h
              try dsimp only at hJ
              obtain ⟨rfl, hS⟩ := hJ
              unfold F.law30_CborNests_K4 at h
              refine wpC_seq ?_
              refine wpC_region ?_
              refine wpR_v (OpV_move rfl) rfl ?_
              refine wpR_nil ?_
              refine QE_then_n ?_
              refine wpC_block ?_
              refine wpC_seq ?_
              refine wpC_region ?_
              refine wpR_v (OpV_bin rfl rfl (b_eql8 _ x_21 0)) rfl ?_
              refine wpR_v (OpV_assign rfl) rfl ?_
              refine wpR_nil ?_
              refine QE_then_n ?_
              refine wpC_cond rfl (fun hb_39 => ?_) (fun hb_39 => ?_)
              · have h := if_t h hb_39
                refine wpC_region ?_
                refine wpR_v (OpV_move rfl) rfl ?_
                refine wpR_x (OpX_lit (e := e8) (l := [129]) (vs := [v8 129]) Tryd.underlying25 ti5 rfl rfl rfl rfl (by decide) (by decide) hS) rfl ?_
                rintro v_23 w hS
                obtain ⟨x_25, hx_25, h⟩ := obind_some h
                refine wpR_x (G_append Tryd.underlying25 ti5 rfl rfl rfl hS (i := 1) rfl (hS.ro 0 rfl) hx_25) rfl ?_
                rintro v_26 w hS
                refine wpR_v (OpV_assign rfl) rfl ?_
                refine wpR_nil ?_
                refine QE_blk_n ?_
                refine QE_blk_n ?_
                refine QE_then_n ?_
                exact wpC_le _ (by exact ⟨rfl, rfl, rfl, rfl, rfl, rfl, trivial⟩) (hK_44 (x_25, x_16) _ _ ⟨v_26, rfl, (hS.pick [1] (by decide) rfl)⟩ h)
              · have h := if_f h hb_39
                refine wpC_seq ?_
                refine wpC_region ?_
                refine wpR_v (OpV_bin rfl rfl (b_eql8 _ x_21 1)) rfl ?_
                refine wpR_v (OpV_assign rfl) rfl ?_
                refine wpR_nil ?_
                refine QE_then_n ?_
                refine wpC_cond rfl (fun hb_38 => ?_) (fun hb_38 => ?_)
                · have h := if_t h hb_38
                  refine wpC_region ?_
                  refine wpR_v (OpV_move rfl) rfl ?_
                  refine wpR_x (OpX_lit (e := e8) (l := [161, 0]) (vs := [v8 161, v8 0]) Tryd.underlying25 ti5 rfl rfl rfl rfl (by decide) (by decide) hS) rfl ?_
                  rintro v_28 w hS
                  obtain ⟨x_30, hx_30, h⟩ := obind_some h
                  refine wpR_x (G_append Tryd.underlying25 ti5 rfl rfl rfl hS (i := 1) rfl (hS.ro 0 rfl) hx_30) rfl ?_
                  rintro v_31 w hS
                  refine wpR_v (OpV_assign rfl) rfl ?_
                  refine wpR_nil ?_
                  refine QE_blk_n ?_
                  refine QE_blk_n ?_
                  refine QE_then_n ?_
                  exact wpC_le _ (by exact ⟨rfl, rfl, rfl, rfl, rfl, rfl, trivial⟩) (hK_44 (x_30, x_16) _ _ ⟨v_31, rfl, (hS.pick [1] (by decide) rfl)⟩ h)
                · have h := if_f h hb_38
                  refine wpC_region ?_
                  refine wpR_v (OpV_move rfl) rfl ?_
                  refine wpR_x (OpX_lit (e := e8) (l := [193]) (vs := [v8 193]) Tryd.underlying25 ti5 rfl rfl rfl rfl (by decide) (by decide) hS) rfl ?_
                  rintro v_33 w hS
                  obtain ⟨x_35, hx_35, h⟩ := obind_some h
                  refine wpR_x (G_append Tryd.underlying25 ti5 rfl rfl rfl hS (i := 1) rfl (hS.ro 0 rfl) hx_35) rfl ?_
                  rintro v_36 w hS
                  refine wpR_v (OpV_assign rfl) rfl ?_
                  refine wpR_nil ?_
                  refine QE_blk_n ?_
                  refine QE_blk_n ?_
                  refine QE_then_n ?_
                  exact wpC_le _ (by exact ⟨rfl, rfl, rfl, rfl, rfl, rfl, trivial⟩) (hK_44 (x_35, x_16) _ _ ⟨v_36, rfl, (hS.pick [1] (by decide) rfl)⟩ h)
            · intro hK_22
              refine wpC_seq ?_
              refine wpC_region ?_
              refine wpR_v (OpV_move rfl) rfl ?_
              refine wpR_v (OpV_len Tryd.underlying25 rfl (ha1.now hS.fr)) rfl ?_
              refine wpR_v (OpV_bin rfl rfl (b_igtr _ (a1.length : Int) 0)) rfl ?_
              refine wpR_nil ?_
              refine QE_then_n ?_
              refine wpC_cond rfl (fun hb_20 => ?_) (fun hb_20 => ?_)
              · have h := if_t h hb_20
                refine wpC_region ?_
                refine wpR_v (OpV_move rfl) rfl ?_
                refine wpR_v (OpV_move rfl) rfl ?_
                refine wpR_v (OpV_move rfl) rfl ?_
                refine wpR_v (OpV_len Tryd.underlying25 rfl (ha1.now hS.fr)) rfl ?_
                obtain ⟨hg_18, h⟩ := grd_some h
                refine wpR_v (OpV_bin rfl rfl (b_irem _ x_11 (a1.length : Int) hg_18)) rfl ?_
                obtain ⟨x_19, hx_19, h⟩ := obind_some h
                refine wpR_v (G_ix Tryd.underlying25 ti5 rfl rfl (ha1.now hS.fr) hx_19) rfl ?_
                refine wpR_v (G_load Tryd.underlying5 rfl rfl (ha1.now hS.fr) hx_19 rfl) rfl ?_
                refine wpR_v (OpV_bin rfl rfl (b_rem8 _ x_19 3 (by decide))) rfl ?_
                refine wpR_v (OpV_assign rfl) rfl ?_
                refine wpR_nil ?_
                refine QE_then_n ?_
                exact wpC_le _ (by exact ⟨rfl, rfl, rfl, rfl, rfl, rfl, rfl, trivial⟩) (hK_22 (x_19 % 3) _ _ ⟨rfl, hS⟩ h)
              · have h := if_f h hb_20
                refine wpC_skip ?_
                refine QE_then_n ?_
                exact wpC_le _ (by exact ⟨rfl, rfl, rfl, rfl, rfl, rfl, rfl, trivial⟩) (hK_22 0 _ _ ⟨rfl, hS⟩ h)
          · intro hK_17
            refine wpC_seq ?_
            refine wpC_region ?_
            refine wpR_v (OpV_move rfl) rfl ?_
            refine wpR_v (OpV_bin rfl rfl (b_ieql _ x_11 32)) rfl ?_
            refine wpR_nil ?_
            refine QE_then_n ?_
            refine wpC_cond rfl (fun hb_15 => ?_) (fun hb_15 => ?_)
            · have h := if_t h hb_15
              refine wpC_region ?_
              refine wpR_v (OpV_move rfl) rfl ?_
              refine wpR_v (OpV_len Tryd.underlying25 rfl (hS.ro 0 rfl)) rfl ?_
              refine wpR_v (OpV_assign rfl) rfl ?_
              refine wpR_nil ?_
              refine QE_then_n ?_
              exact wpC_le _ (by exact ⟨rfl, rfl, rfl, rfl, rfl, rfl, trivial⟩) (hK_17 (x_7.length : Int) _ _ ⟨rfl, hS⟩ h)
            · have h := if_f h hb_15
              refine wpC_skip ?_
              refine QE_then_n ?_
              exact wpC_le _ (by exact ⟨rfl, rfl, rfl, rfl, rfl, rfl, trivial⟩) (hK_17 x_10 _ _ ⟨rfl, hS⟩ h)
      · have h := if_f h hb_72
        refine wpC_exit ?_
        refine QE_then_x ?_
        refine QE_then_x ?_
        have h := oinr_some h hk_12
        refine QE_blk_x ?_
        refine QE_then_n ?_
        refine wpC_seq ?_
        refine wpC_seq ?_
        refine wpC_region ?_
        refine wpR_v (OpV_move rfl) rfl ?_
        refine wpR_v (OpV_bin rfl rfl (b_igtr _ a0 32)) rfl ?_
        refine wpR_nil ?_
        refine QE_then_n ?_
        refine wpC_cond rfl (fun hb_71 => ?_) (fun hb_71 => ?_)
        · have h := if_t h hb_71
          refine wpC_seq ?_
          refine wpC_region ?_
          refine wpR_v (OpV_move rfl) rfl ?_
          refine wpR_v (OpV_move rfl) rfl ?_
          obtain ⟨x_45, hx_45, h⟩ := obind_some h
          refine wpR_x (G_append Tryd.underlying25 ti5 rfl rfl rfl hS (i := 0) rfl (ha2.now hS.fr) hx_45) rfl ?_
          rintro v_46 w hS
          refine wpR_v (OpV_assign rfl) rfl ?_
          refine wpR_nil ?_
          refine QE_then_n ?_
          refine wpC_seq ?_
          refine wpC_region ?_
          refine wpR_v (OpV_move rfl) rfl ?_
          obtain ⟨x_48, hx_48, h⟩ := obind_some h
          refine wpR_call (by kernel_rfl) rfl (c_cbor_Parse _ x_45 v_46  (hT.now hS.fr) (hS.ro 0 rfl).rp _ hx_48) rfl ?_
          rintro _ w ⟨v_49, rfl, hS1⟩
          have hS := hS.call hS1
          simp only [List.cons_append, List.nil_append] at hS
          refine wpR_v (OpV_move rfl) rfl ?_
          refine wpR_v (OpV_extract rfl rfl) rfl ?_
          refine wpR_v (OpV_extract rfl rfl) rfl ?_
          refine wpR_v (OpV_extract rfl rfl) rfl ?_
          refine wpR_v (OpV_assign rfl) rfl ?_
          refine wpR_v (OpV_assign rfl) rfl ?_
          refine wpR_v (OpV_assign rfl) rfl ?_
          refine wpR_nil ?_
          refine QE_then_n ?_
          refine wpC_seq ?_
          refine wpC_region ?_
          refine wpR_v (OpV_move rfl) rfl ?_
          refine wpR_v (OpV_len Tryd.underlying25 rfl (hS.ro 1 rfl)) rfl ?_
          refine wpR_v (OpV_bin rfl rfl (b_igtr _ (x_45.length : Int) 65536)) rfl ?_
          refine wpR_v (OpV_move rfl) rfl ?_
          cases hb_51 : (decide ((65536 : Int) < (x_45.length : Int)))
          case true =>
            have h := if_t h hb_51
            try simp only [hb_51]
            refine wpR_gskip (b := true) (t := 76) rfl rfl rfl rfl ?_
            refine wpR_gskip (b := true) (t := 76) rfl rfl rfl rfl ?_
            refine wpR_gskip (b := true) (t := 76) rfl rfl rfl rfl ?_
            refine wpR_gskipU (t := 79) rfl rfl rfl ?_
            refine wpR_gskipU (t := 79) rfl rfl rfl ?_
            refine wpR_gskipU (t := 79) rfl rfl rfl ?_
            refine wpR_gskip (b := true) (t := 76) rfl rfl rfl rfl ?_
            refine wpR_gskip (b := true) (t := 76) rfl rfl rfl rfl ?_
            refine wpR_gskipU (t := 84) rfl rfl rfl ?_
            refine wpR_gskipU (t := 84) rfl rfl rfl ?_
            refine wpR_gskipU (t := 84) rfl rfl rfl ?_
            refine wpR_gskip (b := true) (t := 76) rfl rfl rfl rfl ?_
            refine wpR_v (OpV_pickT rfl rfl) rfl ?_
            refine wpR_v (OpV_assign rfl) rfl ?_
            refine wpR_nil ?_
            refine QE_then_n ?_
            refine wpC_ret ?_
            refine QE_then_r ?_
            cases h
            exact QE_ret1 rfl rfl ⟨rfl, hS.pick [] (by decide) rfl⟩
          case false =>
            have h := if_f h hb_51
            try simp only [hb_51]
            refine wpR_gv (t := 76) rfl rfl (OpV_move rfl) rfl ?_
            refine wpR_gv (t := 76) rfl rfl (OpV_bin rfl rfl (b_ieql _ x_48.2.1 11)) rfl ?_
            refine wpR_gv (t := 76) rfl rfl (OpV_move rfl) rfl ?_
            cases hb_52 : (x_48.2.1 == 11)
            case true =>
              have h := if_t h hb_52
              try simp only [hb_52]
              refine wpR_gv (t := 79) rfl rfl (OpV_move rfl) rfl ?_
              refine wpR_gv (t := 79) rfl rfl (OpV_move rfl) rfl ?_
              refine wpR_gv (t := 79) rfl rfl (OpV_bin rfl rfl (b_ieql _ x_48.2.2 x_10)) rfl ?_
              refine wpR_gv (t := 76) rfl rfl (OpV_pickT rfl rfl) rfl ?_
              refine wpR_gv (t := 76) rfl rfl (OpV_move rfl) rfl ?_
              cases hb_53 : (x_48.2.2 == x_10)
              case true =>
                have h := if_t h hb_53
                try simp only [hb_53]
                refine wpR_gv (t := 84) rfl rfl (OpV_move rfl) rfl ?_
                refine wpR_gv (t := 84) rfl rfl (OpV_len Tryd.underlying22 rfl (hS.ro 0 rfl)) rfl ?_
                refine wpR_gv (t := 84) rfl rfl (OpV_bin rfl rfl (b_ieql _ (x_48.1.length : Int) 0)) rfl ?_
                refine wpR_gv (t := 76) rfl rfl (OpV_pickT rfl rfl) rfl ?_
                refine wpR_v (OpV_pickF rfl rfl) rfl ?_
                refine wpR_v (OpV_assign rfl) rfl ?_
                refine wpR_nil ?_
                refine QE_then_n ?_
                refine wpC_ret ?_
                refine QE_then_r ?_
                cases h
                exact QE_ret1 rfl rfl ⟨rfl, hS.pick [] (by decide) rfl⟩
              case false =>
                have h := if_f h hb_53
                try simp only [hb_53]
                refine wpR_gskip (b := false) (t := 84) rfl rfl rfl rfl ?_
                refine wpR_gskip (b := false) (t := 84) rfl rfl rfl rfl ?_
                refine wpR_gskip (b := false) (t := 84) rfl rfl rfl rfl ?_
                refine wpR_gv (t := 76) rfl rfl (OpV_pickF rfl rfl) rfl ?_
                refine wpR_v (OpV_pickF rfl rfl) rfl ?_
                refine wpR_v (OpV_assign rfl) rfl ?_
                refine wpR_nil ?_
                refine QE_then_n ?_
                refine wpC_ret ?_
                refine QE_then_r ?_
                cases h
                exact QE_ret1 rfl rfl ⟨rfl, hS.pick [] (by decide) rfl⟩
            case false =>
              have h := if_f h hb_52
              try simp only [hb_52]
              refine wpR_gskip (b := false) (t := 79) rfl rfl rfl rfl ?_
              refine wpR_gskip (b := false) (t := 79) rfl rfl rfl rfl ?_
              refine wpR_gskip (b := false) (t := 79) rfl rfl rfl rfl ?_
              refine wpR_gv (t := 76) rfl rfl (OpV_pickF rfl rfl) rfl ?_
              refine wpR_gv (t := 76) rfl rfl (OpV_move rfl) rfl ?_
              refine wpR_gskip (b := false) (t := 84) rfl rfl rfl rfl ?_
              refine wpR_gskip (b := false) (t := 84) rfl rfl rfl rfl ?_
              refine wpR_gskip (b := false) (t := 84) rfl rfl rfl rfl ?_
              refine wpR_gv (t := 76) rfl rfl (OpV_pickF rfl rfl) rfl ?_
              refine wpR_v (OpV_pickF rfl rfl) rfl ?_
              refine wpR_v (OpV_assign rfl) rfl ?_
              refine wpR_nil ?_
              refine QE_then_n ?_
              refine wpC_ret ?_
              refine QE_then_r ?_
              cases h
              exact QE_ret1 rfl rfl ⟨rfl, hS.pick [] (by decide) rfl⟩
        · have h := if_f h hb_71
          refine wpC_skip ?_
          refine QE_then_n ?_
          refine wpC_seq ?_
          refine wpC_region ?_
          refine wpR_v (OpV_move rfl) rfl ?_
          refine wpR_x (OpX_lit (e := e8) (l := [0]) (vs := [v8 0]) Tryd.underlying25 ti5 rfl rfl rfl rfl (by decide) (by decide) hS) rfl ?_
          rintro v_54 w hS
          obtain ⟨x_56, hx_56, h⟩ := obind_some h
          refine wpR_x (G_append Tryd.underlying25 ti5 rfl rfl rfl hS (i := 1) rfl (hS.ro 0 rfl) hx_56) rfl ?_
          rintro v_57 w hS
          refine wpR_v (OpV_assign rfl) rfl ?_
          refine wpR_nil ?_
          refine QE_then_n ?_
          refine wpC_seq ?_
          refine wpC_region ?_
          refine wpR_v (OpV_move rfl) rfl ?_
          obtain ⟨x_59, hx_59, h⟩ := obind_some h
          refine wpR_call (by kernel_rfl) rfl (c_cbor_Parse _ x_56 v_57  (hT.now hS.fr) (hS.ro 1 rfl).rp _ hx_59) rfl ?_
          rintro _ w ⟨v_60, rfl, hS1⟩
          have hS := hS.call hS1
          simp only [List.cons_append, List.nil_append] at hS
          refine wpR_v (OpV_move rfl) rfl ?_
          refine wpR_v (OpV_extract rfl rfl) rfl ?_
          refine wpR_v (OpV_extract rfl rfl) rfl ?_
          refine wpR_v (OpV_extract rfl rfl) rfl ?_
          refine wpR_v (OpV_assign rfl) rfl ?_
          refine wpR_v (OpV_assign rfl) rfl ?_
          refine wpR_v (OpV_assign rfl) rfl ?_
          refine wpR_nil ?_
          refine QE_then_n ?_
          refine wpC_seq ?_
          refine wpC_region ?_
          refine wpR_v (OpV_move rfl) rfl ?_
          refine wpR_v (OpV_bin rfl rfl (b_ieql _ x_59.2.1 0)) rfl ?_
          refine wpR_v (OpV_move rfl) rfl ?_
          cases hb_62 : (x_59.2.1 == 0)
          case true =>
            have h := if_t h hb_62
            try simp only [hb_62]
            refine wpR_gv (t := 101) rfl rfl (OpV_move rfl) rfl ?_
            obtain ⟨x_63, hx_63, h⟩ := obind_some h
            refine wpR_gcall (t := 101) rfl rfl (by kernel_rfl) rfl (c_cbor_Shaped _ x_59.1 v_60  (hT.now hS.fr) (hS.ro 0 rfl).rp _ hx_63) rfl ?_
            rintro _ w ⟨rfl, hS1⟩
            have hS := hS.call hS1
            simp only [List.cons_append, List.nil_append] at hS
            refine wpR_v (OpV_pickT rfl rfl) rfl ?_
            refine wpR_v (OpV_move rfl) rfl ?_
            cases hb_64 : x_63
            case true =>
              have h := if_t h hb_64
              try simp only [hb_64]
              refine wpR_gv (t := 105) rfl rfl (OpV_move rfl) rfl ?_
              refine wpR_gx (t := 105) rfl rfl (OpX_lit (e := eV) (l := ([SV.of v_60] : List SV)) (vs := [v_60]) Tryd.underlying44 ti22 rfl rfl rfl (fl_eVc (hS.ro 0 rfl).sv rfl) (by decide) (by decide) hS) rfl ?_
              rintro v_65 w hS
              obtain ⟨x_67, hx_67, h⟩ := obind_some h
              refine wpR_gcall (t := 105) rfl rfl (by kernel_rfl) rfl (c_law30_joined _ 4 [x_59.1] v_65 [SV.of v_60] (hS.ro 0 rfl).rp ⟨(hS.ro 1 rfl).svrp, trivial⟩ _ hx_67) rfl ?_
              rintro v_68 w hS1
              have hS := hS.call hS1
              simp only [List.cons_append, List.nil_append] at hS
              obtain ⟨x_70, hx_70, h⟩ := obind_some h
              refine wpR_gcall (t := 105) rfl rfl (by kernel_rfl) rfl (c_cbor_Shaped _ x_67 v_68  (hT.now hS.fr) (hS.ro 0 rfl).rp _ hx_70) rfl ?_
              rintro _ w ⟨rfl, hS1⟩
              have hS := hS.call hS1
              simp only [List.cons_append, List.nil_append] at hS
              refine wpR_gv (t := 105) rfl rfl (OpV_move rfl) rfl ?_
              refine wpR_gv (t := 105) rfl rfl (OpV_bin rfl rfl (b_ilss _ a0 32)) rfl ?_
              refine wpR_gv (t := 105) rfl rfl (OpV_bin rfl rfl (b_beql _ x_70 (decide (a0 < 32)) Tryd.underlying4 rfl)) rfl ?_
              refine wpR_v (OpV_pickT rfl rfl) rfl ?_
              refine wpR_v (OpV_assign rfl) rfl ?_
              refine wpR_nil ?_
              refine QE_then_n ?_
              refine wpC_ret ?_
              cases h
              exact QE_ret1 rfl rfl ⟨rfl, hS.pick [] (by decide) rfl⟩
            case false =>
              have h := if_f h hb_64
              try simp only [hb_64]
              refine wpR_gskip (b := false) (t := 105) rfl rfl rfl rfl ?_
              refine wpR_gskip (b := false) (t := 105) rfl rfl rfl rfl ?_
              refine wpR_gskip (b := false) (t := 105) rfl rfl rfl rfl ?_
              refine wpR_gskip (b := false) (t := 105) rfl rfl rfl rfl ?_
              refine wpR_gskip (b := false) (t := 105) rfl rfl rfl rfl ?_
              refine wpR_gskip (b := false) (t := 105) rfl rfl rfl rfl ?_
              refine wpR_gskip (b := false) (t := 105) rfl rfl rfl rfl ?_
              refine wpR_v (OpV_pickF rfl rfl) rfl ?_
              refine wpR_v (OpV_assign rfl) rfl ?_
              refine wpR_nil ?_
              refine QE_then_n ?_
              refine wpC_ret ?_
              cases h
              exact QE_ret1 rfl rfl ⟨rfl, hS.pick [] (by decide) rfl⟩
          case false =>
            have h := if_f h hb_62
            try simp only [hb_62]
            refine wpR_gskip (b := false) (t := 101) rfl rfl rfl rfl ?_
            refine wpR_gskip (b := false) (t := 101) rfl rfl rfl rfl ?_
            refine wpR_v (OpV_pickF rfl rfl) rfl ?_
            refine wpR_v (OpV_move rfl) rfl ?_
            refine wpR_gskip (b := false) (t := 105) rfl rfl rfl rfl ?_
            refine wpR_gskip (b := false) (t := 105) rfl rfl rfl rfl ?_
            refine wpR_gskip (b := false) (t := 105) rfl rfl rfl rfl ?_
            refine wpR_gskip (b := false) (t := 105) rfl rfl rfl rfl ?_
            refine wpR_gskip (b := false) (t := 105) rfl rfl rfl rfl ?_
            refine wpR_gskip (b := false) (t := 105) rfl rfl rfl rfl ?_
            refine wpR_gskip (b := false) (t := 105) rfl rfl rfl rfl ?_
            refine wpR_v (OpV_pickF rfl rfl) rfl ?_
            refine wpR_v (OpV_assign rfl) rfl ?_
            refine wpR_nil ?_
            refine QE_then_n ?_
            refine wpC_ret ?_
            cases h
            exact QE_ret1 rfl rfl ⟨rfl, hS.pick [] (by decide) rfl⟩
  · intro hK_5
    refine wpC_region ?_
    obtain ⟨x_1, hx_1, h⟩ := obind_some h
    refine wpR_call (by kernel_rfl) rfl (c_law30_awake _    (hT.now hS.fr) _ hx_1) rfl ?_
    rintro _ w ⟨rfl, hS1⟩
    have hS := hS.call hS1
    simp only [List.cons_append, List.nil_append] at hS
    refine wpR_v (OpV_un rfl (u_not x_1)) rfl ?_
    refine wpR_v (OpV_move rfl) rfl ?_
    cases hb_2 : (!x_1)
    case true =>
      have h := if_t h hb_2
      try simp only [hb_2]
      refine wpR_gskip (b := true) (t := 19) rfl rfl rfl rfl ?_
      refine wpR_gskip (b := true) (t := 19) rfl rfl rfl rfl ?_
      refine wpR_v (OpV_pickT rfl rfl) rfl ?_
      refine wpR_v (OpV_move rfl) rfl ?_
      refine wpR_gskip (b := true) (t := 23) rfl rfl rfl rfl ?_
      refine wpR_gskip (b := true) (t := 23) rfl rfl rfl rfl ?_
      refine wpR_v (OpV_pickT rfl rfl) rfl ?_
      refine wpR_nil ?_
      refine QE_then_n ?_
      exact wpC_le _ (by exact ⟨rfl, rfl, rfl, rfl, trivial⟩) (hK_5 true _ _ ⟨rfl, hS⟩ h)
    case false =>
      have h := if_f h hb_2
      try simp only [hb_2]
      refine wpR_gv (t := 19) rfl rfl (OpV_move rfl) rfl ?_
      refine wpR_gv (t := 19) rfl rfl (OpV_bin rfl rfl (b_ilss _ a0 0)) rfl ?_
      refine wpR_v (OpV_pickF rfl rfl) rfl ?_
      refine wpR_v (OpV_move rfl) rfl ?_
      cases hb_3 : (decide (a0 < 0))
      case true =>
        have h := if_t h hb_3
        try simp only [hb_3]
        refine wpR_gskip (b := true) (t := 23) rfl rfl rfl rfl ?_
        refine wpR_gskip (b := true) (t := 23) rfl rfl rfl rfl ?_
        refine wpR_v (OpV_pickT rfl rfl) rfl ?_
        refine wpR_nil ?_
        refine QE_then_n ?_
        exact wpC_le _ (by exact ⟨rfl, rfl, rfl, rfl, trivial⟩) (hK_5 true _ _ ⟨rfl, hS⟩ h)
      case false =>
        have h := if_f h hb_3
        try simp only [hb_3]
        refine wpR_gv (t := 23) rfl rfl (OpV_move rfl) rfl ?_
        refine wpR_gv (t := 23) rfl rfl (OpV_bin rfl rfl (b_igtr _ a0 100)) rfl ?_
        refine wpR_v (OpV_pickF rfl rfl) rfl ?_
        refine wpR_nil ?_
        refine QE_then_n ?_
        exact wpC_le _ (by exact ⟨rfl, rfl, rfl, rfl, trivial⟩) (hK_5 (decide ((100 : Int) < a0)) _ _ ⟨rfl, hS⟩ h)


end Go.Proofs
