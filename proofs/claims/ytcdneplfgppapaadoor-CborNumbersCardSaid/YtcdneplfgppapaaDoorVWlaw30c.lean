import Derived.Test.YtcdneplfgppapaaDoorVW0
import Derived.Test.YtcdneplfgppapaaDoorGkFlaw30
import Derived.Test.YtcdneplfgppapaaDoorVWcborc
import Derived.Test.YtcdneplfgppapaaDoorVWlaw30b
import Derived.Test.YtcdneplfgppapaaDoorVWref30d
set_option linter.unusedVariables false
set_option linter.unusedSimpArgs false
set_option linter.unusedVariables false
set_option maxRecDepth 4000
namespace Go.Proofs
open Go Go.RowKit Go.Gk
theorem c_law30_CborNumbers (w0 : World) (a0 : UInt64) (a1 : Bool)  (hT : TB [] w0) (r : Bool)
  (h : F.law30_CborNumbers a0 a1 = some r) : Calls Tryd.prog 9 #[v64 a0, vB a1] w0 (Ret fun v w => v = vB r ∧ St [] w0 w []) := by
 refine calls_at 102 Tryd.func9 rfl rfl rfl ?_
 have hS := St.start w0
 refine wpC_le [(0, v64 a0), (1, vB a1)] ⟨rfl, rfl, trivial⟩ ?_
 unfold F.law30_CborNumbers at h
 refine wpC_seq ?_
 refine wpC_region ?_
 refine wpR_v (OpV_assign rfl) rfl ?_
 refine wpR_nil ?_
 refine QE_then_n ?_
 refine wpC_seq ?_
 refine wpC_seq ?_
 refine wpC_region ?_
 obtain ⟨x_1, hx_1, h⟩ := obind_some h
 refine wpR_call (by kernel_rfl) rfl (c_law30_awake _    (hT.now hS.fr) _ hx_1) rfl ?_
 rintro _ w ⟨rfl, hS1⟩
 have hS := hS.call hS1
 simp only [List.cons_append, List.nil_append] at hS
 refine wpR_v (OpV_un rfl (u_not x_1)) rfl ?_
 refine wpR_nil ?_
 refine QE_then_n ?_
 refine wpC_cond rfl (fun hb_57 => ?_) (fun hb_57 => ?_)
 ·have h := if_t h hb_57
  refine wpC_seq ?_
  refine wpC_region ?_
  refine wpR_v (OpV_assign rfl) rfl ?_
  refine wpR_nil ?_
  refine QE_then_n ?_
  refine wpC_ret ?_
  refine QE_then_r ?_
  cases h
  exact QE_ret1 rfl rfl ⟨rfl, hS⟩
 ·have h := if_f h hb_57
  refine wpC_skip ?_
  refine QE_then_n ?_
  refine wpC_seq ?_
  refine wpC_region ?_
  refine wpR_v (OpV_assign rfl) rfl ?_
  refine wpR_nil ?_
  refine QE_then_n ?_
  refine seq_join (r := r) (fun (g : Int) L w => L = [(0, v64 a0), (5, vI g)] ∧ St [] w0 w []) (F.law30_CborNumbers_K1 a0) ?_ ?_
  ·rintro x_3 L w hJ h
   try dsimp only at hJ
   obtain ⟨rfl, hS⟩ := hJ
   unfold F.law30_CborNumbers_K1 at h
   refine wpC_seq ?_
   refine wpC_region ?_
   refine wpR_v (OpV_move rfl) rfl ?_
   refine wpR_v (OpV_move rfl) rfl ?_
   refine wpR_v (OpV_build (vs := [(0, vI x_3, [vI x_3]), (1, v64 a0, [v64 a0])]) (cells := [vI x_3, v64 a0, vS [], vI 0]) rfl lay33 ⟨rfl, rfl, trivial⟩ rfl) rfl ?_
   refine wpR_x (OpX_litE (e := (eP eI (eP e64 (eP eS eI)))) (l := ([(x_3, a0, [], 0)] : List (Int × UInt64 × (List UInt8) × Int))) (vs := [(0, .agg #[vI x_3, v64 a0, vS [], vI 0], [vI x_3, v64 a0, vS [], vI 0])]) Tryd.underlying22 ti33 rfl ⟨rfl, trivial⟩ rfl rfl (Nat.le_of_ble_eq_true rfl) (Nat.le_of_ble_eq_true rfl) hS) rfl ?_
   rintro v_5 w hS
   obtain ⟨x_7, hx_7, h⟩ := obind_some h
   refine wpR_call (by kernel_rfl) rfl (c_cbor_Print _ ([(x_3, a0, [], 0)] : List (Int × UInt64 × (List UInt8) × Int)) v_5  (hT.now hS.fr) (hS.ro 0 rfl).rp _ hx_7) rfl ?_
   rintro _ w ⟨v_8, rfl, hS1⟩
   have hS := hS.call hS1
   simp only [List.cons_append, List.nil_append] at hS
   refine wpR_v (OpV_move rfl) rfl ?_
   refine wpR_v (OpV_extract rfl rfl) rfl ?_
   refine wpR_v (OpV_extract rfl rfl) rfl ?_
   refine wpR_v (OpV_assign rfl) rfl ?_
   refine wpR_v (OpV_assign rfl) rfl ?_
   refine wpR_nil ?_
   refine QE_then_n ?_
   refine wpC_seq ?_
   refine wpC_region ?_
   refine wpR_v (OpV_assign rfl) rfl ?_
   refine wpR_nil ?_
   refine QE_then_n ?_
   refine seq_join (r := r) (fun (g : Int) L w => L = [(0, v64 a0), (5, vI x_3), (6, v_8), (7, vI x_7.2), (8, vI g)] ∧ St [] w0 w [own e8 v_8 x_7.1]) (F.law30_CborNumbers_K2 a0 x_7 x_3) ?_ ?_
   ·rintro x_11 L w hJ h
    try dsimp only at hJ
    obtain ⟨rfl, hS⟩ := hJ
    unfold F.law30_CborNumbers_K2 at h
    refine wpC_seq ?_
    refine wpC_block ?_
    refine wpC_le [(0, v64 a0), (5, vI x_3), (6, v_8), (7, vI x_7.2), (8, vI x_11)] ⟨rfl, rfl, rfl, rfl, rfl, trivial⟩ ?_
    refine loop_ind (F.law30_CborNumbers_L1 a0 x_7 x_3) (fun (s : Int) L w => L = [(0, v64 a0), (5, vI x_3), (6, v_8), (7, vI x_7.2), (8, vI s)] ∧ St [] w0 w [own e8 v_8 x_7.1]) ?_ x_11 ⟨rfl, hS⟩ h
    rintro k_56 x_13 L w q_16 hI ih_15 h hk_14
    try dsimp only at hI
    obtain ⟨rfl, hS⟩ := hI
    unfold F.law30_CborNumbers_L1 at h
    refine wpC_seq ?_
    refine seq_join (r := q_16) (fun (g : Bool) L w => L = [(0, v64 a0), (5, vI x_3), (6, v_8), (7, vI x_7.2), (8, vI x_13), (40, vB g)] ∧ St [] w0 w [own e8 v_8 x_7.1]) (F.law30_CborNumbers_K3 x_7 x_13 a0 x_3) ?_ ?_
    ·rintro x_19 L w hJ h
     try dsimp only at hJ
     obtain ⟨rfl, hS⟩ := hJ
     unfold F.law30_CborNumbers_K3 at h
     refine wpC_cond rfl (fun hb_55 => ?_) (fun hb_55 => ?_)
     ·have h := if_t h hb_55
      refine wpC_skip ?_
      refine QE_then_n ?_
      refine wpC_block ?_
      refine wpC_region ?_
      refine wpR_v (OpV_move rfl) rfl ?_
      refine wpR_v (OpV_bin rfl rfl (b_imul _ 2 x_13)) rfl ?_
      refine wpR_v (OpV_assign rfl) rfl ?_
      refine wpR_nil ?_
      refine QE_blk_n ?_
      exact QE_rnd (wpN_le _ (by exact ⟨rfl, rfl, rfl, rfl, rfl, trivial⟩) (ih_15 (wI (2 * x_13)) _ _ ⟨rfl, hS⟩ (oinl_some h hk_14)))
     ·have h := if_f h hb_55
      refine wpC_exit ?_
      refine QE_then_x ?_
      refine QE_then_x ?_
      have h := oinr_some h hk_14
      refine QE_blk_x ?_
      refine QE_then_n ?_
      refine wpC_seq ?_
      refine seq_join (r := r) (fun (g : Bool) L w => L = [(0, v64 a0), (5, vI x_3), (6, v_8), (8, vI x_13), (51, vB g)] ∧ St [] w0 w [own e8 v_8 x_7.1]) (F.law30_CborNumbers_K4 a0 x_3 x_7 x_13) ?_ ?_
      ·rintro x_22 L w hJ h
       try dsimp only at hJ
       obtain ⟨rfl, hS⟩ := hJ
       unfold F.law30_CborNumbers_K4 at h
       refine wpC_cond rfl (fun hb_54 => ?_) (fun hb_54 => ?_)
       ·have h := if_t h hb_54
        refine wpC_seq ?_
        refine wpC_region ?_
        refine wpR_v (OpV_assign rfl) rfl ?_
        refine wpR_nil ?_
        refine QE_then_n ?_
        refine wpC_ret ?_
        refine QE_then_r ?_
        cases h
        exact QE_ret1 rfl rfl ⟨rfl, hS.pick [] (by decide) rfl⟩
       ·have h := if_f h hb_54
        refine wpC_skip ?_
        refine QE_then_n ?_
        refine wpC_seq ?_
        refine wpC_seq ?_
        refine wpC_region ?_
        refine wpR_v (OpV_assign rfl) rfl ?_
        refine wpR_nil ?_
        refine QE_then_n ?_
        refine wpC_block ?_
        refine wpC_le [(0, v64 a0), (5, vI x_3), (6, v_8), (8, vI x_13), (9, vI 0)] ⟨rfl, rfl, rfl, rfl, rfl, trivial⟩ ?_
        refine loop_ind (F.law30_CborNumbers_L2 a0 x_3 x_7 x_13) (fun (s : Int) L w => L = [(0, v64 a0), (5, vI x_3), (6, v_8), (8, vI x_13), (9, vI s)] ∧ St [] w0 w [own e8 v_8 x_7.1]) ?_ 0 ⟨rfl, hS⟩ h
        rintro k_53 x_24 L w q_27 hI ih_26 h hk_25
        try dsimp only at hI
        obtain ⟨rfl, hS⟩ := hI
        unfold F.law30_CborNumbers_L2 at h
        refine wpC_seq ?_
        refine wpC_seq ?_
        refine wpC_region ?_
        refine wpR_v (OpV_move rfl) rfl ?_
        refine wpR_v (OpV_bin rfl rfl (b_ileq _ x_24 8)) rfl ?_
        refine wpR_nil ?_
        refine QE_then_n ?_
        refine wpC_cond rfl (fun hb_52 => ?_) (fun hb_52 => ?_)
        ·have h := if_t h hb_52
         refine wpC_skip ?_
         refine QE_then_n ?_
         refine seq_join (r := q_27) (fun (g : Unit) L w => L = [(0, v64 a0), (5, vI x_3), (6, v_8), (8, vI x_13), (9, vI x_24)] ∧ St [] w0 w [own e8 v_8 x_7.1]) (F.law30_CborNumbers_K5 x_24) ?_ ?_
         ·rintro _g L w hJ h
          try dsimp only at hJ
          obtain ⟨rfl, hS⟩ := hJ
          unfold F.law30_CborNumbers_K5 at h
          refine wpC_region ?_
          refine wpR_v (OpV_move rfl) rfl ?_
          obtain ⟨x_51, hx_51, h⟩ := obind_some h
          refine wpR_call (by kernel_rfl) rfl (c_law30_longer _ x_24    _ hx_51) rfl ?_
          rintro _ w ⟨rfl, hS1⟩
          have hS := hS.call hS1
          simp only [List.cons_append, List.nil_append] at hS
          refine wpR_v (OpV_assign rfl) rfl ?_
          refine wpR_nil ?_
          exact QE_rnd (wpN_le _ (by exact ⟨rfl, rfl, rfl, rfl, rfl, trivial⟩) (ih_26 x_51 _ _ ⟨rfl, hS⟩ (oinl_some h hk_25)))
         ·intro hK_50
          refine wpC_block ?_
          refine wpC_seq ?_
          refine wpC_region ?_
          refine wpR_v (OpV_move rfl) rfl ?_
          refine wpR_v (OpV_move rfl) rfl ?_
          refine wpR_v (OpV_move rfl) rfl ?_
          obtain ⟨x_28, hx_28, h⟩ := obind_some h
          refine wpR_call (by kernel_rfl) rfl (c_law30_headed _ x_3 a0 x_24    _ hx_28) rfl ?_
          rintro v_29 w hS1
          have hS := hS.call hS1
          simp only [List.cons_append, List.nil_append] at hS
          refine wpR_v (OpV_assign rfl) rfl ?_
          refine wpR_nil ?_
          refine QE_then_n ?_
          refine wpC_seq ?_
          refine wpC_region ?_
          refine wpR_v (OpV_move rfl) rfl ?_
          obtain ⟨x_31, hx_31, h⟩ := obind_some h
          refine wpR_call (by kernel_rfl) rfl (c_cbor_Parse _ x_28 v_29  (hT.now hS.fr) (hS.ro 0 rfl).rp _ hx_31) rfl ?_
          rintro _ w ⟨v_32, rfl, hS1⟩
          have hS := hS.call hS1
          simp only [List.cons_append, List.nil_append] at hS
          refine wpR_v (OpV_move rfl) rfl ?_
          refine wpR_v (OpV_extract rfl rfl) rfl ?_
          refine wpR_v (OpV_extract rfl rfl) rfl ?_
          refine wpR_v (OpV_extract rfl rfl) rfl ?_
          refine wpR_v (OpV_assign rfl) rfl ?_
          refine wpR_v (OpV_assign rfl) rfl ?_
          refine wpR_v (OpV_assign rfl) rfl ?_
          refine wpR_nil ?_
          refine QE_then_n ?_
          refine wpC_block ?_
          refine wpC_seq ?_
          refine wpC_region ?_
          refine wpR_v (OpV_move rfl) rfl ?_
          refine wpR_v (OpV_move rfl) rfl ?_
          refine wpR_v (OpV_bin rfl rfl (b_ilss _ x_24 x_13)) rfl ?_
          refine wpR_v (OpV_assign rfl) rfl ?_
          refine wpR_nil ?_
          refine QE_then_n ?_
          refine wpC_cond rfl (fun hb_49 => ?_) (fun hb_49 => ?_)
          ·have h := if_t h hb_49
           refine wpC_skip ?_
           refine QE_blk_n ?_
           refine QE_blk_n ?_
           refine QE_then_n ?_
           exact wpC_le _ (by exact ⟨rfl, rfl, rfl, rfl, rfl, trivial⟩) (hK_50 () _ _ ⟨rfl, (hS.pick [2] (by decide) rfl)⟩ h)
          ·have h := if_f h hb_49
           refine wpC_seq ?_
           refine wpC_region ?_
           refine wpR_v (OpV_move rfl) rfl ?_
           refine wpR_v (OpV_move rfl) rfl ?_
           refine wpR_v (OpV_bin rfl rfl (b_ieql _ x_24 x_13)) rfl ?_
           refine wpR_v (OpV_assign rfl) rfl ?_
           refine wpR_nil ?_
           refine QE_then_n ?_
           refine wpC_cond rfl (fun hb_48 => ?_) (fun hb_48 => ?_)
           ·have h := if_t h hb_48
            refine seq_join (r := q_27) (fun (g : Bool) L w => L = [(0, v64 a0), (5, vI x_3), (6, v_8), (8, vI x_13), (9, vI x_24), (101, vB g)] ∧ St [] w0 w [own e8 v_8 x_7.1]) (F.law30_CborNumbers_K6 x_24) ?_ ?_
            ·rintro x_40 L w hJ h
             try dsimp only at hJ
             obtain ⟨rfl, hS⟩ := hJ
             unfold F.law30_CborNumbers_K6 at h
             refine wpC_cond rfl (fun hb_42 => ?_) (fun hb_42 => ?_)
             ·have h := if_t h hb_42
              refine wpC_seq ?_
              refine wpC_region ?_
              refine wpR_v (OpV_assign rfl) rfl ?_
              refine wpR_nil ?_
              refine QE_then_n ?_
              refine wpC_ret ?_
              refine QE_blk_r ?_
              refine QE_blk_r ?_
              refine QE_then_r ?_
              refine QE_then_r ?_
              have h := oinr_some h hk_25
              refine QE_blk_r ?_
              refine QE_then_r ?_
              cases h
              exact QE_ret1 rfl rfl ⟨rfl, hS.pick [] (by decide) rfl⟩
             ·have h := if_f h hb_42
              refine wpC_skip ?_
              refine QE_blk_n ?_
              refine QE_blk_n ?_
              refine QE_then_n ?_
              exact wpC_le _ (by exact ⟨rfl, rfl, rfl, rfl, rfl, trivial⟩) (hK_50 () _ _ ⟨rfl, hS⟩ h)
            ·intro hK_41
             refine wpC_region ?_
             refine wpR_v (OpV_move rfl) rfl ?_
             refine wpR_v (OpV_move rfl) rfl ?_
             obtain ⟨x_34, hx_34, h⟩ := obind_some h
             refine wpR_call (by kernel_rfl) rfl (c_law30_sameBytes _ x_7.1 x_28 v_8 v_29  (hS.ro 2 rfl).rp (hS.ro 1 rfl).rp _ hx_34) rfl ?_
             rintro _ w ⟨rfl, hS1⟩
             have hS := hS.call hS1
             simp only [List.cons_append, List.nil_append] at hS
             refine wpR_v (OpV_un rfl (u_not x_34)) rfl ?_
             refine wpR_v (OpV_move rfl) rfl ?_
             cases hb_35 : (!x_34)
             case true =>
              have h := if_t h hb_35
              try simp only [hb_35]
              refine wpR_gskip (b := true) (t := 89) rfl rfl rfl rfl ?_
              refine wpR_gskip (b := true) (t := 89) rfl rfl rfl rfl ?_
              refine wpR_v (OpV_pickT rfl rfl) rfl ?_
              refine wpR_v (OpV_move rfl) rfl ?_
              refine wpR_gskip (b := true) (t := 93) rfl rfl rfl rfl ?_
              refine wpR_gskip (b := true) (t := 93) rfl rfl rfl rfl ?_
              refine wpR_gskip (b := true) (t := 93) rfl rfl rfl rfl ?_
              refine wpR_gskip (b := true) (t := 93) rfl rfl rfl rfl ?_
              refine wpR_gskip (b := true) (t := 93) rfl rfl rfl rfl ?_
              refine wpR_gskip (b := true) (t := 93) rfl rfl rfl rfl ?_
              refine wpR_gskip (b := true) (t := 93) rfl rfl rfl rfl ?_
              refine wpR_v (OpV_pickT rfl rfl) rfl ?_
              refine wpR_nil ?_
              refine QE_then_n ?_
              exact wpC_le _ (by exact ⟨rfl, rfl, rfl, rfl, rfl, rfl, trivial⟩) (hK_41 true _ _ ⟨rfl, (hS.pick [2] (by decide) rfl)⟩ h)
             case false =>
              have h := if_f h hb_35
              try simp only [hb_35]
              refine wpR_gv (t := 89) rfl rfl (OpV_move rfl) rfl ?_
              refine wpR_gv (t := 89) rfl rfl (OpV_bin rfl rfl (b_ineq _ x_31.2.1 0)) rfl ?_
              refine wpR_v (OpV_pickF rfl rfl) rfl ?_
              refine wpR_v (OpV_move rfl) rfl ?_
              cases hb_36 : (x_31.2.1 != 0)
              case true =>
               have h := if_t h hb_36
               try simp only [hb_36]
               refine wpR_gskip (b := true) (t := 93) rfl rfl rfl rfl ?_
               refine wpR_gskip (b := true) (t := 93) rfl rfl rfl rfl ?_
               refine wpR_gskip (b := true) (t := 93) rfl rfl rfl rfl ?_
               refine wpR_gskip (b := true) (t := 93) rfl rfl rfl rfl ?_
               refine wpR_gskip (b := true) (t := 93) rfl rfl rfl rfl ?_
               refine wpR_gskip (b := true) (t := 93) rfl rfl rfl rfl ?_
               refine wpR_gskip (b := true) (t := 93) rfl rfl rfl rfl ?_
               refine wpR_v (OpV_pickT rfl rfl) rfl ?_
               refine wpR_nil ?_
               refine QE_then_n ?_
               exact wpC_le _ (by exact ⟨rfl, rfl, rfl, rfl, rfl, rfl, trivial⟩) (hK_41 true _ _ ⟨rfl, (hS.pick [2] (by decide) rfl)⟩ h)
              case false =>
               have h := if_f h hb_36
               try simp only [hb_36]
               refine wpR_gv (t := 93) rfl rfl (OpV_move rfl) rfl ?_
               refine wpR_gv (t := 93) rfl rfl (OpV_move rfl) rfl ?_
               refine wpR_gv (t := 93) rfl rfl (OpV_move rfl) rfl ?_
               refine wpR_gv (t := 93) rfl rfl (OpV_build (vs := [(0, vI x_3, [vI x_3]), (1, v64 a0, [v64 a0])]) (cells := [vI x_3, v64 a0, vS [], vI 0]) rfl lay33 ⟨rfl, rfl, trivial⟩ rfl) rfl ?_
               refine wpR_gx (t := 93) rfl rfl (OpX_litE (e := (eP eI (eP e64 (eP eS eI)))) (l := ([(x_3, a0, [], 0)] : List (Int × UInt64 × (List UInt8) × Int))) (vs := [(0, .agg #[vI x_3, v64 a0, vS [], vI 0], [vI x_3, v64 a0, vS [], vI 0])]) Tryd.underlying22 ti33 rfl ⟨rfl, trivial⟩ rfl rfl (Nat.le_of_ble_eq_true rfl) (Nat.le_of_ble_eq_true rfl) hS) rfl ?_
               rintro v_37 w hS
               obtain ⟨x_39, hx_39, h⟩ := obind_some h
               refine wpR_gcall (t := 93) rfl rfl (by kernel_rfl) rfl (c_law30_same _ x_31.1 ([(x_3, a0, [], 0)] : List (Int × UInt64 × (List UInt8) × Int)) v_32 v_37  (hS.ro 1 rfl).rp (hS.ro 0 rfl).rp _ hx_39) rfl ?_
               rintro _ w ⟨rfl, hS1⟩
               have hS := hS.call hS1
               simp only [List.cons_append, List.nil_append] at hS
               refine wpR_gv (t := 93) rfl rfl (OpV_un rfl (u_not x_39)) rfl ?_
               refine wpR_v (OpV_pickF rfl rfl) rfl ?_
               refine wpR_nil ?_
               refine QE_then_n ?_
               exact wpC_le _ (by exact ⟨rfl, rfl, rfl, rfl, rfl, rfl, trivial⟩) (hK_41 (!x_39) _ _ ⟨rfl, (hS.pick [3] (by decide) rfl)⟩ h)
           ·have h := if_f h hb_48
            refine seq_join (r := q_27) (fun (g : Bool) L w => L = [(0, v64 a0), (5, vI x_3), (6, v_8), (8, vI x_13), (9, vI x_24), (76, vB g)] ∧ St [] w0 w [own e8 v_8 x_7.1]) (F.law30_CborNumbers_K7 x_24) ?_ ?_
            ·rintro x_45 L w hJ h
             try dsimp only at hJ
             obtain ⟨rfl, hS⟩ := hJ
             unfold F.law30_CborNumbers_K7 at h
             refine wpC_cond rfl (fun hb_47 => ?_) (fun hb_47 => ?_)
             ·have h := if_t h hb_47
              refine wpC_seq ?_
              refine wpC_region ?_
              refine wpR_v (OpV_assign rfl) rfl ?_
              refine wpR_nil ?_
              refine QE_then_n ?_
              refine wpC_ret ?_
              refine QE_blk_r ?_
              refine QE_blk_r ?_
              refine QE_then_r ?_
              refine QE_then_r ?_
              have h := oinr_some h hk_25
              refine QE_blk_r ?_
              refine QE_then_r ?_
              cases h
              exact QE_ret1 rfl rfl ⟨rfl, hS.pick [] (by decide) rfl⟩
             ·have h := if_f h hb_47
              refine wpC_skip ?_
              refine QE_blk_n ?_
              refine QE_blk_n ?_
              refine QE_then_n ?_
              exact wpC_le _ (by exact ⟨rfl, rfl, rfl, rfl, rfl, trivial⟩) (hK_50 () _ _ ⟨rfl, hS⟩ h)
            ·intro hK_46
             refine wpC_region ?_
             refine wpR_v (OpV_move rfl) rfl ?_
             refine wpR_v (OpV_bin rfl rfl (b_ineq _ x_31.2.1 220)) rfl ?_
             refine wpR_v (OpV_move rfl) rfl ?_
             cases hb_43 : (x_31.2.1 != 220)
             case true =>
              have h := if_t h hb_43
              try simp only [hb_43]
              refine wpR_gskip (b := true) (t := 68) rfl rfl rfl rfl ?_
              refine wpR_gskip (b := true) (t := 68) rfl rfl rfl rfl ?_
              refine wpR_v (OpV_pickT rfl rfl) rfl ?_
              refine wpR_v (OpV_move rfl) rfl ?_
              refine wpR_gskip (b := true) (t := 72) rfl rfl rfl rfl ?_
              refine wpR_gskip (b := true) (t := 72) rfl rfl rfl rfl ?_
              refine wpR_gskip (b := true) (t := 72) rfl rfl rfl rfl ?_
              refine wpR_v (OpV_pickT rfl rfl) rfl ?_
              refine wpR_nil ?_
              refine QE_then_n ?_
              exact wpC_le _ (by exact ⟨rfl, rfl, rfl, rfl, rfl, rfl, trivial⟩) (hK_46 true _ _ ⟨rfl, (hS.pick [2] (by decide) rfl)⟩ h)
             case false =>
              have h := if_f h hb_43
              try simp only [hb_43]
              refine wpR_gv (t := 68) rfl rfl (OpV_move rfl) rfl ?_
              refine wpR_gv (t := 68) rfl rfl (OpV_bin rfl rfl (b_ineq _ x_31.2.2 0)) rfl ?_
              refine wpR_v (OpV_pickF rfl rfl) rfl ?_
              refine wpR_v (OpV_move rfl) rfl ?_
              cases hb_44 : (x_31.2.2 != 0)
              case true =>
               have h := if_t h hb_44
               try simp only [hb_44]
               refine wpR_gskip (b := true) (t := 72) rfl rfl rfl rfl ?_
               refine wpR_gskip (b := true) (t := 72) rfl rfl rfl rfl ?_
               refine wpR_gskip (b := true) (t := 72) rfl rfl rfl rfl ?_
               refine wpR_v (OpV_pickT rfl rfl) rfl ?_
               refine wpR_nil ?_
               refine QE_then_n ?_
               exact wpC_le _ (by exact ⟨rfl, rfl, rfl, rfl, rfl, rfl, trivial⟩) (hK_46 true _ _ ⟨rfl, (hS.pick [2] (by decide) rfl)⟩ h)
              case false =>
               have h := if_f h hb_44
               try simp only [hb_44]
               refine wpR_gv (t := 72) rfl rfl (OpV_move rfl) rfl ?_
               refine wpR_gv (t := 72) rfl rfl (OpV_len Tryd.underlying22 rfl (hS.ro 0 rfl)) rfl ?_
               refine wpR_gv (t := 72) rfl rfl (OpV_bin rfl rfl (b_ineq _ (x_31.1.length : Int) 0)) rfl ?_
               refine wpR_v (OpV_pickF rfl rfl) rfl ?_
               refine wpR_nil ?_
               refine QE_then_n ?_
               exact wpC_le _ (by exact ⟨rfl, rfl, rfl, rfl, rfl, rfl, trivial⟩) (hK_46 ((x_31.1.length : Int) != 0) _ _ ⟨rfl, (hS.pick [2] (by decide) rfl)⟩ h)
        ·have h := if_f h hb_52
         refine wpC_exit ?_
         refine QE_then_x ?_
         refine QE_then_x ?_
         have h := oinr_some h hk_25
         refine QE_blk_x ?_
         refine QE_then_n ?_
         refine wpC_seq ?_
         refine wpC_region ?_
         refine wpR_v (OpV_assign rfl) rfl ?_
         refine wpR_nil ?_
         refine QE_then_n ?_
         refine wpC_ret ?_
         cases h
         exact QE_ret1 rfl rfl ⟨rfl, hS.pick [] (by decide) rfl⟩
      ·intro hK_23
       refine wpC_region ?_
       refine wpR_v (OpV_move rfl) rfl ?_
       refine wpR_v (OpV_bin rfl rfl (b_ineq _ x_7.2 0)) rfl ?_
       refine wpR_v (OpV_move rfl) rfl ?_
       cases hb_21 : (x_7.2 != 0)
       case true =>
        have h := if_t h hb_21
        try simp only [hb_21]
        refine wpR_gskip (b := true) (t := 45) rfl rfl rfl rfl ?_
        refine wpR_gskip (b := true) (t := 45) rfl rfl rfl rfl ?_
        refine wpR_gskip (b := true) (t := 45) rfl rfl rfl rfl ?_
        refine wpR_gskip (b := true) (t := 45) rfl rfl rfl rfl ?_
        refine wpR_gskip (b := true) (t := 45) rfl rfl rfl rfl ?_
        refine wpR_v (OpV_pickT rfl rfl) rfl ?_
        refine wpR_nil ?_
        refine QE_then_n ?_
        exact wpC_le _ (by exact ⟨rfl, rfl, rfl, rfl, rfl, trivial⟩) (hK_23 true _ _ ⟨rfl, hS⟩ h)
       case false =>
        have h := if_f h hb_21
        try simp only [hb_21]
        refine wpR_gv (t := 45) rfl rfl (OpV_move rfl) rfl ?_
        refine wpR_gv (t := 45) rfl rfl (OpV_len Tryd.underlying25 rfl (hS.ro 0 rfl)) rfl ?_
        refine wpR_gv (t := 45) rfl rfl (OpV_move rfl) rfl ?_
        refine wpR_gv (t := 45) rfl rfl (OpV_bin rfl rfl (b_iadd _ 1 x_13)) rfl ?_
        refine wpR_gv (t := 45) rfl rfl (OpV_bin rfl rfl (b_ineq _ (x_7.1.length : Int) (wI (1 + x_13)))) rfl ?_
        refine wpR_v (OpV_pickF rfl rfl) rfl ?_
        refine wpR_nil ?_
        refine QE_then_n ?_
        exact wpC_le _ (by exact ⟨rfl, rfl, rfl, rfl, rfl, trivial⟩) (hK_23 ((x_7.1.length : Int) != (wI (1 + x_13))) _ _ ⟨rfl, hS⟩ h)
    ·intro hK_20
     refine wpC_region ?_
     refine wpR_v (OpV_move rfl) rfl ?_
     refine wpR_v (OpV_bin rfl rfl (b_igtr _ x_13 0)) rfl ?_
     refine wpR_v (OpV_move rfl) rfl ?_
     cases hb_17 : (decide ((0 : Int) < x_13))
     case true =>
      have h := if_t h hb_17
      try simp only [hb_17]
      refine wpR_gv (t := 29) rfl rfl (OpV_move rfl) rfl ?_
      refine wpR_gv (t := 29) rfl rfl (OpV_bin rfl rfl (b_ilss _ x_13 8)) rfl ?_
      refine wpR_v (OpV_pickT rfl rfl) rfl ?_
      refine wpR_v (OpV_move rfl) rfl ?_
      cases hb_18 : (decide (x_13 < 8))
      case true =>
       have h := if_t h hb_18
       try simp only [hb_18]
       refine wpR_gv (t := 33) rfl rfl (OpV_move rfl) rfl ?_
       refine wpR_gv (t := 33) rfl rfl (OpV_move rfl) rfl ?_
       refine wpR_gv (t := 33) rfl rfl (OpV_bin rfl rfl (b_imul _ 8 x_13)) rfl ?_
       refine wpR_gv (t := 33) rfl rfl (OpV_conv rfl (cv_i_64 Tryd.underlying3 Tryd.underlying46 (wI (8 * x_13)))) rfl ?_
       refine wpR_gv (t := 33) rfl rfl (OpV_bin rfl rfl (b_shr64_64 _ a0 (UInt64.ofInt (wI (8 * x_13))))) rfl ?_
       refine wpR_gv (t := 33) rfl rfl (OpV_bin rfl rfl (b_gtr64 _ (shr64 a0 ((UInt64.ofInt (wI (8 * x_13))).toNat)) 0)) rfl ?_
       refine wpR_v (OpV_pickT rfl rfl) rfl ?_
       refine wpR_nil ?_
       refine QE_then_n ?_
       exact wpC_le _ (by exact ⟨rfl, rfl, rfl, rfl, rfl, rfl, trivial⟩) (hK_20 (decide ((0 : UInt64) < (shr64 a0 ((UInt64.ofInt (wI (8 * x_13))).toNat)))) _ _ ⟨rfl, hS⟩ h)
      case false =>
       have h := if_f h hb_18
       try simp only [hb_18]
       refine wpR_gskip (b := false) (t := 33) rfl rfl rfl rfl ?_
       refine wpR_gskip (b := false) (t := 33) rfl rfl rfl rfl ?_
       refine wpR_gskip (b := false) (t := 33) rfl rfl rfl rfl ?_
       refine wpR_gskip (b := false) (t := 33) rfl rfl rfl rfl ?_
       refine wpR_gskip (b := false) (t := 33) rfl rfl rfl rfl ?_
       refine wpR_gskip (b := false) (t := 33) rfl rfl rfl rfl ?_
       refine wpR_v (OpV_pickF rfl rfl) rfl ?_
       refine wpR_nil ?_
       refine QE_then_n ?_
       exact wpC_le _ (by exact ⟨rfl, rfl, rfl, rfl, rfl, rfl, trivial⟩) (hK_20 false _ _ ⟨rfl, hS⟩ h)
     case false =>
      have h := if_f h hb_17
      try simp only [hb_17]
      refine wpR_gskip (b := false) (t := 29) rfl rfl rfl rfl ?_
      refine wpR_gskip (b := false) (t := 29) rfl rfl rfl rfl ?_
      refine wpR_v (OpV_pickF rfl rfl) rfl ?_
      refine wpR_v (OpV_move rfl) rfl ?_
      refine wpR_gskip (b := false) (t := 33) rfl rfl rfl rfl ?_
      refine wpR_gskip (b := false) (t := 33) rfl rfl rfl rfl ?_
      refine wpR_gskip (b := false) (t := 33) rfl rfl rfl rfl ?_
      refine wpR_gskip (b := false) (t := 33) rfl rfl rfl rfl ?_
      refine wpR_gskip (b := false) (t := 33) rfl rfl rfl rfl ?_
      refine wpR_gskip (b := false) (t := 33) rfl rfl rfl rfl ?_
      refine wpR_v (OpV_pickF rfl rfl) rfl ?_
      refine wpR_nil ?_
      refine QE_then_n ?_
      exact wpC_le _ (by exact ⟨rfl, rfl, rfl, rfl, rfl, rfl, trivial⟩) (hK_20 false _ _ ⟨rfl, hS⟩ h)
   ·intro hK_12
    refine wpC_seq ?_
    refine wpC_region ?_
    refine wpR_v (OpV_move rfl) rfl ?_
    refine wpR_v (OpV_bin rfl rfl (b_geq64 _ a0 24)) rfl ?_
    refine wpR_nil ?_
    refine QE_then_n ?_
    refine wpC_cond rfl (fun hb_10 => ?_) (fun hb_10 => ?_)
    ·have h := if_t h hb_10
     refine wpC_region ?_
     refine wpR_v (OpV_assign rfl) rfl ?_
     refine wpR_nil ?_
     refine QE_then_n ?_
     exact wpC_le _ (by exact ⟨rfl, rfl, rfl, rfl, rfl, trivial⟩) (hK_12 1 _ _ ⟨rfl, (hS.pick [0] (by decide) rfl)⟩ h)
    ·have h := if_f h hb_10
     refine wpC_skip ?_
     refine QE_then_n ?_
     exact wpC_le _ (by exact ⟨rfl, rfl, rfl, rfl, rfl, trivial⟩) (hK_12 0 _ _ ⟨rfl, (hS.pick [0] (by decide) rfl)⟩ h)
  ·intro hK_4
   refine wpC_seq ?_
   refine wpC_region ?_
   refine wpR_v (OpV_move rfl) rfl ?_
   refine wpR_nil ?_
   refine QE_then_n ?_
   refine wpC_cond rfl (fun hb_2 => ?_) (fun hb_2 => ?_)
   ·have h := if_t h hb_2
    refine wpC_region ?_
    refine wpR_v (OpV_assign rfl) rfl ?_
    refine wpR_nil ?_
    refine QE_then_n ?_
    exact wpC_le _ (by exact ⟨rfl, rfl, trivial⟩) (hK_4 1 _ _ ⟨rfl, hS⟩ h)
   ·have h := if_f h hb_2
    refine wpC_skip ?_
    refine QE_then_n ?_
    exact wpC_le _ (by exact ⟨rfl, rfl, trivial⟩) (hK_4 0 _ _ ⟨rfl, hS⟩ h)
end Go.Proofs
