import Derived.Test.YtcdneplfgppapaaDoorVW0
import Derived.Test.YtcdneplfgppapaaDoorGkFlaw30
import Derived.Test.YtcdneplfgppapaaDoorVWcborc
import Derived.Test.YtcdneplfgppapaaDoorVWlaw30b
import Derived.Test.YtcdneplfgppapaaDoorVWref30d
set_option linter.unusedVariables false
set_option linter.unusedSimpArgs false
set_option linter.unusedVariables false
set_option maxRecDepth 4000
namespace Go.Proofs
open Go Go.RowKit Go.Gk
theorem c_law30_CborFills (w0 : World) (a0 : UInt8) (a1 : Int)  (hT : TB [] w0) (r : Bool)
  (h : F.law30_CborFills a0 a1 = some r) : Calls Tryd.prog 10 #[v8 a0, vI a1] w0 (Ret fun v w => v = vB r ∧ St [] w0 w []) := by
 refine calls_at 102 Tryd.func10 rfl rfl rfl ?_
 have hS := St.start w0
 refine wpC_le [(0, v8 a0), (1, vI a1)] ⟨rfl, rfl, trivial⟩ ?_
 unfold F.law30_CborFills at h
 refine wpC_seq ?_
 refine wpC_region ?_
 refine wpR_v (OpV_assign rfl) rfl ?_
 refine wpR_nil ?_
 refine QE_then_n ?_
 refine wpC_seq ?_
 refine seq_join (r := r) (fun (g : Bool) L w => L = [(0, v8 a0), (1, vI a1), (26, vB g)] ∧ St [] w0 w []) (F.law30_CborFills_K1 a1 a0) ?_ ?_
 ·rintro x_4 L w hJ h
  try dsimp only at hJ
  obtain ⟨rfl, hS⟩ := hJ
  unfold F.law30_CborFills_K1 at h
  refine wpC_cond rfl (fun hb_45 => ?_) (fun hb_45 => ?_)
  ·have h := if_t h hb_45
   refine wpC_seq ?_
   refine wpC_region ?_
   obtain ⟨x_6, hx_6, h⟩ := obind_some h
   refine wpR_call (by kernel_rfl) rfl (c_law30_awake _    (hT.now hS.fr) _ hx_6) rfl ?_
   rintro _ w ⟨rfl, hS1⟩
   have hS := hS.call hS1
   simp only [List.cons_append, List.nil_append] at hS
   refine wpR_v (OpV_assign rfl) rfl ?_
   refine wpR_nil ?_
   refine QE_then_n ?_
   refine wpC_ret ?_
   refine QE_then_r ?_
   cases h
   exact QE_ret1 rfl rfl ⟨rfl, hS⟩
  ·have h := if_f h hb_45
   refine wpC_skip ?_
   refine QE_then_n ?_
   refine wpC_seq ?_
   refine wpC_region ?_
   refine wpR_v (OpV_move rfl) rfl ?_
   refine wpR_v (OpV_bin rfl rfl (b_isub _ 65533 a1)) rfl ?_
   obtain ⟨x_7, hx_7, h⟩ := obind_some h
   refine wpR_x (G_make (e := e8) Tryd.underlying25 ti5 rfl rfl rfl hS hx_7) rfl ?_
   rintro v_8 w hS
   refine wpR_v (OpV_assign rfl) rfl ?_
   refine wpR_nil ?_
   refine QE_then_n ?_
   refine wpC_seq ?_
   refine wpC_seq ?_
   refine wpC_region ?_
   refine wpR_v (OpV_assign rfl) rfl ?_
   refine wpR_nil ?_
   refine QE_then_n ?_
   refine wpC_block ?_
   refine wpC_le [(0, v8 a0), (1, vI a1), (5, v_8), (6, vI 0)] ⟨rfl, rfl, rfl, rfl, trivial⟩ ?_
   refine loop_ind (F.law30_CborFills_L1 a0 a1) (fun (s : Int × List UInt8) L w => L = [(0, v8 a0), (1, vI a1), (5, v_8), (6, vI s.1)] ∧ St [] w0 w [own e8 v_8 s.2]) ?_ (0, x_7) ⟨rfl, hS⟩ h
   rintro k_44 ⟨x_10, x_11⟩ L w q_14 hI ih_13 h hk_12
   try dsimp only at hI
   obtain ⟨rfl, hS⟩ := hI
   unfold F.law30_CborFills_L1 at h
   refine wpC_seq ?_
   refine wpC_seq ?_
   refine wpC_region ?_
   refine wpR_v (OpV_move rfl) rfl ?_
   refine wpR_v (OpV_move rfl) rfl ?_
   refine wpR_v (OpV_len Tryd.underlying25 rfl (hS.ro 0 rfl)) rfl ?_
   refine wpR_v (OpV_bin rfl rfl (b_ilss _ x_10 (x_11.length : Int))) rfl ?_
   refine wpR_nil ?_
   refine QE_then_n ?_
   refine wpC_cond rfl (fun hb_43 => ?_) (fun hb_43 => ?_)
   ·have h := if_t h hb_43
    refine wpC_skip ?_
    refine QE_then_n ?_
    refine wpC_seq ?_
    refine wpC_block ?_
    refine wpC_region ?_
    refine wpR_v (OpV_move rfl) rfl ?_
    refine wpR_v (OpV_move rfl) rfl ?_
    refine wpR_v (OpV_move rfl) rfl ?_
    obtain ⟨x_15, hx_15, h⟩ := obind_some h
    refine wpR_v (G_ix Tryd.underlying25 ti5 rfl rfl (hS.ro 0 rfl) hx_15) rfl ?_
    refine wpR_y (G_storeE (t := a0) ti5 rfl rfl hS (i := 0) rfl hx_15 rfl) ?_
    intro w hS
    obtain ⟨x_16, hx_16, h⟩ := olet_some h
    rw [hx_16] at hS
    refine wpR_nil ?_
    refine QE_blk_n ?_
    refine QE_then_n ?_
    refine wpC_region ?_
    refine wpR_v (OpV_move rfl) rfl ?_
    refine wpR_v (OpV_bin rfl rfl (b_iadd _ x_10 1)) rfl ?_
    refine wpR_v (OpV_assign rfl) rfl ?_
    refine wpR_nil ?_
    exact QE_rnd (wpN_le _ (by exact ⟨rfl, rfl, rfl, rfl, trivial⟩) (ih_13 (wI (x_10 + 1), x_16) _ _ ⟨rfl, hS⟩ (oinl_some h hk_12)))
   ·have h := if_f h hb_43
    refine wpC_exit ?_
    refine QE_then_x ?_
    refine QE_then_x ?_
    have h := oinr_some h hk_12
    refine QE_blk_x ?_
    refine QE_then_n ?_
    refine wpC_seq ?_
    refine wpC_region ?_
    refine wpR_v (OpV_move rfl) rfl ?_
    refine wpR_v (OpV_str Tryd.underlying25 Tryd.underlying5 Tryd.underlying9 rfl (hS.ro 0 rfl)) rfl ?_
    refine wpR_v (OpV_build (vs := [(0, vI 2, [vI 2]), (2, vS x_11, [vS x_11])]) (cells := [vI 2, v64 0, vS x_11, vI 0]) rfl lay33 ⟨rfl, rfl, trivial⟩ rfl) rfl ?_
    refine wpR_x (OpX_litE (e := (eP eI (eP e64 (eP eS eI)))) (l := ([(2, 0, x_11, 0)] : List (Int × UInt64 × (List UInt8) × Int))) (vs := [(0, .agg #[vI 2, v64 0, vS x_11, vI 0], [vI 2, v64 0, vS x_11, vI 0])]) Tryd.underlying22 ti33 rfl ⟨rfl, trivial⟩ rfl rfl (Nat.le_of_ble_eq_true rfl) (Nat.le_of_ble_eq_true rfl) hS) rfl ?_
    rintro v_17 w hS
    refine wpR_v (OpV_assign rfl) rfl ?_
    refine wpR_nil ?_
    refine QE_then_n ?_
    refine wpC_seq ?_
    refine wpC_region ?_
    refine wpR_v (OpV_move rfl) rfl ?_
    obtain ⟨x_19, hx_19, h⟩ := obind_some h
    refine wpR_call (by kernel_rfl) rfl (c_cbor_Print _ ([(2, 0, x_11, 0)] : List (Int × UInt64 × (List UInt8) × Int)) v_17  (hT.now hS.fr) (hS.ro 0 rfl).rp _ hx_19) rfl ?_
    rintro _ w ⟨v_20, rfl, hS1⟩
    have hS := hS.call hS1
    simp only [List.cons_append, List.nil_append] at hS
    refine wpR_v (OpV_move rfl) rfl ?_
    refine wpR_v (OpV_extract rfl rfl) rfl ?_
    refine wpR_v (OpV_extract rfl rfl) rfl ?_
    refine wpR_v (OpV_assign rfl) rfl ?_
    refine wpR_v (OpV_assign rfl) rfl ?_
    refine wpR_nil ?_
    refine QE_then_n ?_
    refine wpC_seq ?_
    refine wpC_seq ?_
    refine wpC_region ?_
    refine wpR_v (OpV_move rfl) rfl ?_
    refine wpR_v (OpV_bin rfl rfl (b_ilss _ a1 0)) rfl ?_
    refine wpR_nil ?_
    refine QE_then_n ?_
    refine wpC_cond rfl (fun hb_42 => ?_) (fun hb_42 => ?_)
    ·have h := if_t h hb_42
     refine wpC_seq ?_
     refine wpC_region ?_
     refine wpR_x (OpX_lit (e := e8) (l := [89, 255, 254]) (vs := [v8 89, v8 255, v8 254]) Tryd.underlying25 ti5 rfl rfl rfl rfl (by decide) (by decide) hS) rfl ?_
     rintro v_22 w hS
     refine wpR_v (OpV_move rfl) rfl ?_
     obtain ⟨x_24, hx_24, h⟩ := obind_some h
     refine wpR_x (G_append Tryd.underlying25 ti5 rfl rfl rfl hS (i := 0) rfl (hS.ro 3 rfl) hx_24) rfl ?_
     rintro v_25 w hS
     refine wpR_v (OpV_assign rfl) rfl ?_
     refine wpR_nil ?_
     refine QE_then_n ?_
     refine wpC_seq ?_
     refine wpC_region ?_
     refine wpR_v (OpV_move rfl) rfl ?_
     obtain ⟨x_27, hx_27, h⟩ := obind_some h
     refine wpR_call (by kernel_rfl) rfl (c_cbor_Parse _ x_24 v_25  (hT.now hS.fr) (hS.ro 0 rfl).rp _ hx_27) rfl ?_
     rintro _ w ⟨v_28, rfl, hS1⟩
     have hS := hS.call hS1
     simp only [List.cons_append, List.nil_append] at hS
     refine wpR_v (OpV_move rfl) rfl ?_
     refine wpR_v (OpV_extract rfl rfl) rfl ?_
     refine wpR_v (OpV_extract rfl rfl) rfl ?_
     refine wpR_v (OpV_extract rfl rfl) rfl ?_
     refine wpR_v (OpV_assign rfl) rfl ?_
     refine wpR_v (OpV_assign rfl) rfl ?_
     refine wpR_v (OpV_assign rfl) rfl ?_
     refine wpR_nil ?_
     refine QE_then_n ?_
     refine wpC_seq ?_
     refine wpC_region ?_
     refine wpR_v (OpV_move rfl) rfl ?_
     refine wpR_v (OpV_bin rfl rfl (b_ieql _ x_19.2 10)) rfl ?_
     refine wpR_v (OpV_move rfl) rfl ?_
     cases hb_30 : (x_19.2 == 10)
     case true =>
      have h := if_t h hb_30
      try simp only [hb_30]
      refine wpR_gv (t := 63) rfl rfl (OpV_move rfl) rfl ?_
      refine wpR_gv (t := 63) rfl rfl (OpV_len Tryd.underlying25 rfl (hS.ro 2 rfl)) rfl ?_
      refine wpR_gv (t := 63) rfl rfl (OpV_bin rfl rfl (b_ieql _ (x_19.1.length : Int) 0)) rfl ?_
      refine wpR_v (OpV_pickT rfl rfl) rfl ?_
      refine wpR_v (OpV_move rfl) rfl ?_
      cases hb_31 : ((x_19.1.length : Int) == 0)
      case true =>
       have h := if_t h hb_31
       try simp only [hb_31]
       refine wpR_gv (t := 68) rfl rfl (OpV_move rfl) rfl ?_
       obtain ⟨x_32, hx_32, h⟩ := obind_some h
       refine wpR_gcall (t := 68) rfl rfl (by kernel_rfl) rfl (c_cbor_Shaped _ ([(2, 0, x_11, 0)] : List (Int × UInt64 × (List UInt8) × Int)) v_17  (hT.now hS.fr) (hS.ro 3 rfl).rp _ hx_32) rfl ?_
       rintro _ w ⟨rfl, hS1⟩
       have hS := hS.call hS1
       simp only [List.cons_append, List.nil_append] at hS
       refine wpR_v (OpV_pickT rfl rfl) rfl ?_
       refine wpR_v (OpV_move rfl) rfl ?_
       cases hb_33 : x_32
       case true =>
        have h := if_t h hb_33
        try simp only [hb_33]
        refine wpR_gv (t := 72) rfl rfl (OpV_move rfl) rfl ?_
        refine wpR_gv (t := 72) rfl rfl (OpV_bin rfl rfl (b_ieql _ x_27.2.1 10)) rfl ?_
        refine wpR_v (OpV_pickT rfl rfl) rfl ?_
        refine wpR_v (OpV_move rfl) rfl ?_
        cases hb_34 : (x_27.2.1 == 10)
        case true =>
         have h := if_t h hb_34
         try simp only [hb_34]
         refine wpR_gv (t := 76) rfl rfl (OpV_move rfl) rfl ?_
         refine wpR_gv (t := 76) rfl rfl (OpV_bin rfl rfl (b_ieql _ x_27.2.2 0)) rfl ?_
         refine wpR_v (OpV_pickT rfl rfl) rfl ?_
         refine wpR_v (OpV_move rfl) rfl ?_
         cases hb_35 : (x_27.2.2 == 0)
         case true =>
          have h := if_t h hb_35
          try simp only [hb_35]
          refine wpR_gv (t := 80) rfl rfl (OpV_move rfl) rfl ?_
          refine wpR_gv (t := 80) rfl rfl (OpV_len Tryd.underlying22 rfl (hS.ro 0 rfl)) rfl ?_
          refine wpR_gv (t := 80) rfl rfl (OpV_bin rfl rfl (b_ieql _ (x_27.1.length : Int) 0)) rfl ?_
          refine wpR_v (OpV_pickT rfl rfl) rfl ?_
          refine wpR_v (OpV_assign rfl) rfl ?_
          refine wpR_nil ?_
          refine QE_then_n ?_
          refine wpC_ret ?_
          refine QE_then_r ?_
          cases h
          exact QE_ret1 rfl rfl ⟨rfl, hS.pick [] (by decide) rfl⟩
         case false =>
          have h := if_f h hb_35
          try simp only [hb_35]
          refine wpR_gskip (b := false) (t := 80) rfl rfl rfl rfl ?_
          refine wpR_gskip (b := false) (t := 80) rfl rfl rfl rfl ?_
          refine wpR_gskip (b := false) (t := 80) rfl rfl rfl rfl ?_
          refine wpR_v (OpV_pickF rfl rfl) rfl ?_
          refine wpR_v (OpV_assign rfl) rfl ?_
          refine wpR_nil ?_
          refine QE_then_n ?_
          refine wpC_ret ?_
          refine QE_then_r ?_
          cases h
          exact QE_ret1 rfl rfl ⟨rfl, hS.pick [] (by decide) rfl⟩
        case false =>
         have h := if_f h hb_34
         try simp only [hb_34]
         refine wpR_gskip (b := false) (t := 76) rfl rfl rfl rfl ?_
         refine wpR_gskip (b := false) (t := 76) rfl rfl rfl rfl ?_
         refine wpR_v (OpV_pickF rfl rfl) rfl ?_
         refine wpR_v (OpV_move rfl) rfl ?_
         refine wpR_gskip (b := false) (t := 80) rfl rfl rfl rfl ?_
         refine wpR_gskip (b := false) (t := 80) rfl rfl rfl rfl ?_
         refine wpR_gskip (b := false) (t := 80) rfl rfl rfl rfl ?_
         refine wpR_v (OpV_pickF rfl rfl) rfl ?_
         refine wpR_v (OpV_assign rfl) rfl ?_
         refine wpR_nil ?_
         refine QE_then_n ?_
         refine wpC_ret ?_
         refine QE_then_r ?_
         cases h
         exact QE_ret1 rfl rfl ⟨rfl, hS.pick [] (by decide) rfl⟩
       case false =>
        have h := if_f h hb_33
        try simp only [hb_33]
        refine wpR_gskip (b := false) (t := 72) rfl rfl rfl rfl ?_
        refine wpR_gskip (b := false) (t := 72) rfl rfl rfl rfl ?_
        refine wpR_v (OpV_pickF rfl rfl) rfl ?_
        refine wpR_v (OpV_move rfl) rfl ?_
        refine wpR_gskip (b := false) (t := 76) rfl rfl rfl rfl ?_
        refine wpR_gskip (b := false) (t := 76) rfl rfl rfl rfl ?_
        refine wpR_v (OpV_pickF rfl rfl) rfl ?_
        refine wpR_v (OpV_move rfl) rfl ?_
        refine wpR_gskip (b := false) (t := 80) rfl rfl rfl rfl ?_
        refine wpR_gskip (b := false) (t := 80) rfl rfl rfl rfl ?_
        refine wpR_gskip (b := false) (t := 80) rfl rfl rfl rfl ?_
        refine wpR_v (OpV_pickF rfl rfl) rfl ?_
        refine wpR_v (OpV_assign rfl) rfl ?_
        refine wpR_nil ?_
        refine QE_then_n ?_
        refine wpC_ret ?_
        refine QE_then_r ?_
        cases h
        exact QE_ret1 rfl rfl ⟨rfl, hS.pick [] (by decide) rfl⟩
      case false =>
       have h := if_f h hb_31
       try simp only [hb_31]
       refine wpR_gskip (b := false) (t := 68) rfl rfl rfl rfl ?_
       refine wpR_gskip (b := false) (t := 68) rfl rfl rfl rfl ?_
       refine wpR_v (OpV_pickF rfl rfl) rfl ?_
       refine wpR_v (OpV_move rfl) rfl ?_
       refine wpR_gskip (b := false) (t := 72) rfl rfl rfl rfl ?_
       refine wpR_gskip (b := false) (t := 72) rfl rfl rfl rfl ?_
       refine wpR_v (OpV_pickF rfl rfl) rfl ?_
       refine wpR_v (OpV_move rfl) rfl ?_
       refine wpR_gskip (b := false) (t := 76) rfl rfl rfl rfl ?_
       refine wpR_gskip (b := false) (t := 76) rfl rfl rfl rfl ?_
       refine wpR_v (OpV_pickF rfl rfl) rfl ?_
       refine wpR_v (OpV_move rfl) rfl ?_
       refine wpR_gskip (b := false) (t := 80) rfl rfl rfl rfl ?_
       refine wpR_gskip (b := false) (t := 80) rfl rfl rfl rfl ?_
       refine wpR_gskip (b := false) (t := 80) rfl rfl rfl rfl ?_
       refine wpR_v (OpV_pickF rfl rfl) rfl ?_
       refine wpR_v (OpV_assign rfl) rfl ?_
       refine wpR_nil ?_
       refine QE_then_n ?_
       refine wpC_ret ?_
       refine QE_then_r ?_
       cases h
       exact QE_ret1 rfl rfl ⟨rfl, hS.pick [] (by decide) rfl⟩
     case false =>
      have h := if_f h hb_30
      try simp only [hb_30]
      refine wpR_gskip (b := false) (t := 63) rfl rfl rfl rfl ?_
      refine wpR_gskip (b := false) (t := 63) rfl rfl rfl rfl ?_
      refine wpR_gskip (b := false) (t := 63) rfl rfl rfl rfl ?_
      refine wpR_v (OpV_pickF rfl rfl) rfl ?_
      refine wpR_v (OpV_move rfl) rfl ?_
      refine wpR_gskip (b := false) (t := 68) rfl rfl rfl rfl ?_
      refine wpR_gskip (b := false) (t := 68) rfl rfl rfl rfl ?_
      refine wpR_v (OpV_pickF rfl rfl) rfl ?_
      refine wpR_v (OpV_move rfl) rfl ?_
      refine wpR_gskip (b := false) (t := 72) rfl rfl rfl rfl ?_
      refine wpR_gskip (b := false) (t := 72) rfl rfl rfl rfl ?_
      refine wpR_v (OpV_pickF rfl rfl) rfl ?_
      refine wpR_v (OpV_move rfl) rfl ?_
      refine wpR_gskip (b := false) (t := 76) rfl rfl rfl rfl ?_
      refine wpR_gskip (b := false) (t := 76) rfl rfl rfl rfl ?_
      refine wpR_v (OpV_pickF rfl rfl) rfl ?_
      refine wpR_v (OpV_move rfl) rfl ?_
      refine wpR_gskip (b := false) (t := 80) rfl rfl rfl rfl ?_
      refine wpR_gskip (b := false) (t := 80) rfl rfl rfl rfl ?_
      refine wpR_gskip (b := false) (t := 80) rfl rfl rfl rfl ?_
      refine wpR_v (OpV_pickF rfl rfl) rfl ?_
      refine wpR_v (OpV_assign rfl) rfl ?_
      refine wpR_nil ?_
      refine QE_then_n ?_
      refine wpC_ret ?_
      refine QE_then_r ?_
      cases h
      exact QE_ret1 rfl rfl ⟨rfl, hS.pick [] (by decide) rfl⟩
    ·have h := if_f h hb_42
     refine wpC_skip ?_
     refine QE_then_n ?_
     refine wpC_seq ?_
     refine wpC_region ?_
     refine wpR_v (OpV_move rfl) rfl ?_
     obtain ⟨x_36, hx_36, h⟩ := obind_some h
     refine wpR_call (by kernel_rfl) rfl (c_cbor_Parse _ x_19.1 v_20  (hT.now hS.fr) (hS.ro 0 rfl).rp _ hx_36) rfl ?_
     rintro _ w ⟨v_37, rfl, hS1⟩
     have hS := hS.call hS1
     simp only [List.cons_append, List.nil_append] at hS
     refine wpR_v (OpV_move rfl) rfl ?_
     refine wpR_v (OpV_extract rfl rfl) rfl ?_
     refine wpR_v (OpV_extract rfl rfl) rfl ?_
     refine wpR_v (OpV_extract rfl rfl) rfl ?_
     refine wpR_v (OpV_assign rfl) rfl ?_
     refine wpR_v (OpV_assign rfl) rfl ?_
     refine wpR_v (OpV_assign rfl) rfl ?_
     refine wpR_nil ?_
     refine QE_then_n ?_
     refine wpC_seq ?_
     refine wpC_region ?_
     refine wpR_v (OpV_move rfl) rfl ?_
     refine wpR_v (OpV_bin rfl rfl (b_ieql _ x_19.2 0)) rfl ?_
     refine wpR_v (OpV_move rfl) rfl ?_
     cases hb_39 : (x_19.2 == 0)
     case true =>
      have h := if_t h hb_39
      try simp only [hb_39]
      refine wpR_gv (t := 93) rfl rfl (OpV_move rfl) rfl ?_
      refine wpR_gv (t := 93) rfl rfl (OpV_bin rfl rfl (b_ieql _ x_36.2.1 0)) rfl ?_
      refine wpR_v (OpV_pickT rfl rfl) rfl ?_
      refine wpR_v (OpV_move rfl) rfl ?_
      cases hb_40 : (x_36.2.1 == 0)
      case true =>
       have h := if_t h hb_40
       try simp only [hb_40]
       refine wpR_gv (t := 97) rfl rfl (OpV_move rfl) rfl ?_
       refine wpR_gv (t := 97) rfl rfl (OpV_move rfl) rfl ?_
       obtain ⟨x_41, hx_41, h⟩ := obind_some h
       refine wpR_gcall (t := 97) rfl rfl (by kernel_rfl) rfl (c_law30_same _ x_36.1 ([(2, 0, x_11, 0)] : List (Int × UInt64 × (List UInt8) × Int)) v_37 v_17  (hS.ro 0 rfl).rp (hS.ro 2 rfl).rp _ hx_41) rfl ?_
       rintro _ w ⟨rfl, hS1⟩
       have hS := hS.call hS1
       simp only [List.cons_append, List.nil_append] at hS
       refine wpR_v (OpV_pickT rfl rfl) rfl ?_
       refine wpR_v (OpV_assign rfl) rfl ?_
       refine wpR_nil ?_
       refine QE_then_n ?_
       refine wpC_ret ?_
       cases h
       exact QE_ret1 rfl rfl ⟨rfl, hS.pick [] (by decide) rfl⟩
      case false =>
       have h := if_f h hb_40
       try simp only [hb_40]
       refine wpR_gskip (b := false) (t := 97) rfl rfl rfl rfl ?_
       refine wpR_gskip (b := false) (t := 97) rfl rfl rfl rfl ?_
       refine wpR_gskip (b := false) (t := 97) rfl rfl rfl rfl ?_
       refine wpR_v (OpV_pickF rfl rfl) rfl ?_
       refine wpR_v (OpV_assign rfl) rfl ?_
       refine wpR_nil ?_
       refine QE_then_n ?_
       refine wpC_ret ?_
       cases h
       exact QE_ret1 rfl rfl ⟨rfl, hS.pick [] (by decide) rfl⟩
     case false =>
      have h := if_f h hb_39
      try simp only [hb_39]
      refine wpR_gskip (b := false) (t := 93) rfl rfl rfl rfl ?_
      refine wpR_gskip (b := false) (t := 93) rfl rfl rfl rfl ?_
      refine wpR_v (OpV_pickF rfl rfl) rfl ?_
      refine wpR_v (OpV_move rfl) rfl ?_
      refine wpR_gskip (b := false) (t := 97) rfl rfl rfl rfl ?_
      refine wpR_gskip (b := false) (t := 97) rfl rfl rfl rfl ?_
      refine wpR_gskip (b := false) (t := 97) rfl rfl rfl rfl ?_
      refine wpR_v (OpV_pickF rfl rfl) rfl ?_
      refine wpR_v (OpV_assign rfl) rfl ?_
      refine wpR_nil ?_
      refine QE_then_n ?_
      refine wpC_ret ?_
      cases h
      exact QE_ret1 rfl rfl ⟨rfl, hS.pick [] (by decide) rfl⟩
 ·intro hK_5
  refine wpC_region ?_
  obtain ⟨x_1, hx_1, h⟩ := obind_some h
  refine wpR_call (by kernel_rfl) rfl (c_law30_awake _    (hT.now hS.fr) _ hx_1) rfl ?_
  rintro _ w ⟨rfl, hS1⟩
  have hS := hS.call hS1
  simp only [List.cons_append, List.nil_append] at hS
  refine wpR_v (OpV_un rfl (u_not x_1)) rfl ?_
  refine wpR_v (OpV_move rfl) rfl ?_
  cases hb_2 : (!x_1)
  case true =>
   have h := if_t h hb_2
   try simp only [hb_2]
   refine wpR_gskip (b := true) (t := 19) rfl rfl rfl rfl ?_
   refine wpR_gskip (b := true) (t := 19) rfl rfl rfl rfl ?_
   refine wpR_v (OpV_pickT rfl rfl) rfl ?_
   refine wpR_v (OpV_move rfl) rfl ?_
   refine wpR_gskip (b := true) (t := 23) rfl rfl rfl rfl ?_
   refine wpR_gskip (b := true) (t := 23) rfl rfl rfl rfl ?_
   refine wpR_v (OpV_pickT rfl rfl) rfl ?_
   refine wpR_nil ?_
   refine QE_then_n ?_
   exact wpC_le _ (by exact ⟨rfl, rfl, rfl, trivial⟩) (hK_5 true _ _ ⟨rfl, hS⟩ h)
  case false =>
   have h := if_f h hb_2
   try simp only [hb_2]
   refine wpR_gv (t := 19) rfl rfl (OpV_move rfl) rfl ?_
   refine wpR_gv (t := 19) rfl rfl (OpV_bin rfl rfl (b_ilss _ a1 (-1))) rfl ?_
   refine wpR_v (OpV_pickF rfl rfl) rfl ?_
   refine wpR_v (OpV_move rfl) rfl ?_
   cases hb_3 : (decide (a1 < (-1)))
   case true =>
    have h := if_t h hb_3
    try simp only [hb_3]
    refine wpR_gskip (b := true) (t := 23) rfl rfl rfl rfl ?_
    refine wpR_gskip (b := true) (t := 23) rfl rfl rfl rfl ?_
    refine wpR_v (OpV_pickT rfl rfl) rfl ?_
    refine wpR_nil ?_
    refine QE_then_n ?_
    exact wpC_le _ (by exact ⟨rfl, rfl, rfl, trivial⟩) (hK_5 true _ _ ⟨rfl, hS⟩ h)
   case false =>
    have h := if_f h hb_3
    try simp only [hb_3]
    refine wpR_gv (t := 23) rfl rfl (OpV_move rfl) rfl ?_
    refine wpR_gv (t := 23) rfl rfl (OpV_bin rfl rfl (b_igtr _ a1 65000)) rfl ?_
    refine wpR_v (OpV_pickF rfl rfl) rfl ?_
    refine wpR_nil ?_
    refine QE_then_n ?_
    exact wpC_le _ (by exact ⟨rfl, rfl, rfl, trivial⟩) (hK_5 (decide ((65000 : Int) < a1)) _ _ ⟨rfl, hS⟩ h)
end Go.Proofs
